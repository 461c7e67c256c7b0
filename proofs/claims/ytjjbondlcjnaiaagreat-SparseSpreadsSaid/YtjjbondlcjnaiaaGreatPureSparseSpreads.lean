/- What the program and the specification compute, without the program's code: the plain part of SparseSpreads. -/
import Derived.Test.YtjjbondlcjnaiaaGreatPSparseSpreadsx
namespace Go.Proofs.YtjjbondlcjnaiaaGreat.Pure
open Go.RowKit Go.Proofs.YtjjbondlcjnaiaaGreat.PSparseSpreads Go.Proofs.YtjjbondlcjnaiaaGreatW.PrintWords Go.Proofs.YtjjbondlcjnaiaaGreatW.PrintLast Go.Proofs.YtjjbondlcjnaiaaGreatW.PrintMore
set_option linter.unusedVariables false
set_option linter.unusedSimpArgs false
theorem short_is{x:List Int}(hu:u32s x)(hl:x.length< 4294967296): ∀n,n≤x.length→Ev (fun k=>fluxionref01_short.l0 k x n) (digN (valN (x.take n)))
 |0,h=>by
  refine Ev.step (fun k=>by rw[fluxionref01_short.l0]) ?_
  refine Ev.no (by omega) (Ev.yes (by omega) (Ev.yes (by omega) (Ev.is ?_)))
  exact digN_zero.symm
 |n+1,h=>by
  refine Ev.step (fun k=>by rw[fluxionref01_short.l0]) ?_
  rw[wpx (n+1) (by omega) (by omega),Nat.add_sub_cancel]
  refine Ev.yes (by omega) (Ev.yes (by omega) (Ev.yes (by omega) ?_))
  have hs:x.take (n+1)=x.take n++ [x[n]] :=List.take_succ_eq_append_getElem (by omega)
  have er:rd x (n:Int)=x[n] :=by show x.getD n 0=_;simp[List.getD_eq_getElem?_getD,show n< x.length by omega]
  have hd:=hu x[n] (List.getElem_mem (by omega))
  rw[er,hs]
  by_cases h0:x[n] =0
  ·refine Ev.yes h0 ?_
   rw[h0,digN_snoc_zero];exact short_is hu hl n (by omega)
  ·refine Ev.no h0 (Ev.yes (by omega) (Ev.yes (by omega) (Ev.is ?_)))
   rw[Int.toNat_natCast,hs]
   exact(digN_snoc (u32s_take hu n) (by omega)).symm
theorem short_f{x:List Int}(hu:u32s x)(hl:x.length< 4294967296):Ev (fun k=>fluxionref01_short.f k x) (digN (valN x)):=by
 have:=short_is hu hl x.length (Nat.le_refl _)
 rw[List.take_length]at this;exact this
theorem refCompare_l0{x y:List Int}(hx:u32s x)(hy:u32s y)(hl:x.length=y.length)(hs:x.length< 4294967296): ∀i,i≤x.length→Ev (fun k=>fluxionref01_Compare.l0 k x y ((i:Int) - 1)) (cmpI (valN (x.take i)) (valN (y.take i)))
 |0,hi=>by
  refine Ev.step (fun k=>by rw[fluxionref01_Compare.l0]) ?_
  exact Ev.no (by omega) (Ev.is (cmp_eq _).symm)
 |i+1,hi=>by
  refine Ev.step (fun k=>by rw[fluxionref01_Compare.l0]) ?_
  have e:((i+1:Nat):Int) - 1=(i:Int):=by omega
  rw[e,rd_dgt hx,rd_dgt hy,w64 _ (by omega)]
  refine Ev.yes (by omega) (Ev.yes (by omega) (Ev.yes (by omega) (Ev.yes (by omega) ?_)))
  have h1:=val_take_lt hx i
  have h2:=val_take_lt hy i
  rw[val_take_succ,val_take_succ]
  by_cases ha:dgt x i< dgt y i
  ·exact Ev.yes (by omega) (Ev.is (cmp_lt (cmp_top h1 h2 ha)).symm)
  ·by_cases hb:dgt y i< dgt x i
   ·exact Ev.no (by omega) (Ev.yes (by omega) (Ev.is (cmp_gt (cmp_top h2 h1 hb)).symm))
   ·have he:dgt x i=dgt y i:=by omega
    refine Ev.no (by omega) (Ev.no (by omega) ?_)
    have ih:=refCompare_l0 hx hy hl hs i (by omega)
    rw[he]
    have:cmpI (valN (x.take i) +4294967296 ^ i * dgt y i) (valN (y.take i) +4294967296 ^ i * dgt y i)=cmpI (valN (x.take i)) (valN (y.take i)):=by
     unfold cmpI;generalize 4294967296 ^ i * dgt y i=c;simp
    rw[this];exact ih
theorem refCompare_f{x y:List Int}(hx:canon x)(hy:canon y)(hs:x.length< 4294967296):Ev (fun k=>fluxionref01_Compare.f k x y) (cmpI (valN x) (valN y)):=by
 unfold fluxionref01_Compare.f
 by_cases hl:x.length=y.length
 ·refine Ev.yes (by omega) ?_
  have:=refCompare_l0 hx.1 hy.1 hl hs x.length (Nat.le_refl _)
  rw[w64 _ (by omega)]
  rw[List.take_length,val_take_len (by omega)]at this;exact this
 ·by_cases h:x.length< y.length
  ·exact Ev.no (by omega) (Ev.yes (by omega) (Ev.is (cmp_lt (canon_lt_len hx.1 hy h)).symm))
  ·exact Ev.no (by omega) (Ev.no (by omega) (Ev.is (cmp_gt (canon_lt_len hy.1 hx (by omega))).symm))
theorem refDigit_f{x:List Int}(hx:u32s x)(i:Nat):fluxionref01_digit.f x i=some ((dgt x i:Nat):Int):=by
 unfold fluxionref01_digit.f
 by_cases h:i< x.length
 ·have:=dgt_lt hx i
  rw[if_pos (by omega),if_pos (by omega),rd_dgt hx,u64w _ (by omega)]
 ·rw[if_neg (by omega),dgt_high (by omega)];rfl
theorem refSub_l0{x y:List Int}(hx:u32s x)(hy:u32s y)(hl:valN y≤valN x)(hyl:y.length≤x.length)(hs:x.length< 4294967296): ∀d i (o:List Int) (b:Nat),i+d=x.length→o.length=x.length→u32s o→b≤1→valN (o.take i) +valN (y.take i)=valN (x.take i) +b * 4294967296 ^ i→
  Ev (fun k=>fluxionref01_Sub.l0 k x y o b i) (digN (valN x - valN y))
 |0,i,o,b,hi,ho,hu,hb,hv=>by
  refine Ev.step (fun k=>by rw[fluxionref01_Sub.l0]) ?_
  refine Ev.no (by omega) ?_
  rw[val_take_len (by omega),val_take_len (by omega),val_take_len (by omega)]at hv
  have hlt:=val_lt hu
  have e:i=o.length:=by omega
  have hb0:b=0:=by
   rcases Nat.eq_zero_or_pos b with h|h
   ·exact h
   ·have:b=1:=by omega
    subst this;rw[←e]at hlt;omega
  subst hb0
  have:valN x - valN y=valN o:=by omega
  rw[this]
  exact Ev.bind (short_f hu (by omega)) (Ev.now _)
 |d+1,i,o,b,hi,ho,hu,hb,hv=>by
  refine Ev.step (fun k=>by rw[fluxionref01_Sub.l0]) ?_
  refine Ev.yes (by omega) (Ev.yes (by omega) ?_)
  simp only[refDigit_f hy,rd_dgt hx,Option.bind_some]
  have h1:=dgt_lt hx i
  have h2:=dgt_lt hy i
  refine Ev.yes (by omega) ?_
  rw[u64w (dgt x i) (by omega),u64w ((dgt x i:Int) +4294967296) (by omega),u64w ((dgt x i:Int) +4294967296 - dgt y i) (by omega),u64w ((dgt x i:Int) +4294967296 - dgt y i - b) (by omega)]
  have e1:((dgt x i:Int) +4294967296 - dgt y i - b) % 4294967296=((dgt x i+4294967296 - dgt y i - b) % 4294967296:Nat):=by omega
  have e2:1 - ((dgt x i:Int) +4294967296 - dgt y i - b) / 4294967296=((1 - (dgt x i+4294967296 - dgt y i - b) / 4294967296:Nat):Int):=by omega
  rw[e2,u64w _ (by omega),e1,wnx i (by omega),Int.toNat_natCast]
  refine refSub_l0 hx hy hl hyl hs d (i+1) _ _ (by omega) (by rw[List.length_set];exact ho) (u32s_set hu i (by omega)) (by omega) ?_
  rw[val_take_set (by omega),val_take_succ,val_take_succ,Int.toNat_natCast,Nat.pow_succ]
  generalize hB:4294967296 ^ i=B at *
  generalize valN (o.take i)=O at *
  generalize valN (x.take i)=X at *
  generalize valN (y.take i)=Y at *
  generalize dgt x i=p at *
  generalize dgt y i=q at *
  have key:(p+4294967296 - q - b) % 4294967296+q+b=p+ (1 - (p+4294967296 - q - b) / 4294967296) * 4294967296:=by omega
  generalize (p+4294967296 - q - b) % 4294967296=r at *
  generalize 1 - (p+4294967296 - q - b) / 4294967296=c at *
  have k2:B * (r+q+b)=B * (p+c * 4294967296):=by rw[key]
  rw[Nat.mul_add,Nat.mul_add,Nat.mul_add]at k2
  have k3:B * (c * 4294967296)=c * (B * 4294967296):=by rw[Nat.mul_left_comm]
  rw[k3]at k2
  rw[Nat.mul_comm b B]at hv
  omega
theorem refSub_f{x y:List Int}(hx:u32s x)(hy:canon y)(hl:valN y≤valN x)(hs:x.length< 4294967296):Ev (fun k=>fluxionref01_Sub.f k x y) (digN (valN x - valN y)):=by
 unfold fluxionref01_Sub.f
 refine Ev.yes (by omega) (Ev.yes (by omega) ?_)
 rw[Int.toNat_natCast]
 exact refSub_l0 hx hy.1 hl (canon_len_le hy hx hl) hs x.length 0 _ 0 (by omega) List.length_replicate (u32s_zeros _) (by omega) (by simp[valN])
theorem refTwice_l0{x:List Int}(hx:u32s x)(hs:x.length< 4294967000)(b0:Nat): ∀d i (o:List Int) (b:Nat),i+d=x.length→o.length=x.length+1→u32s o→b≤1→valN (o.take i) +b * 4294967296 ^ i=2 * valN (x.take i) +b0→
  Ev (fun k=>fluxionref01_twice.l0 k x b o i) (digN (2 * valN x+b0))
 |0,i,o,b,hi,ho,hu,hb,hv=>by
  refine Ev.step (fun k=>by rw[fluxionref01_twice.l0]) ?_
  refine Ev.no (by omega) (Ev.yes (by omega) (Ev.yes (by omega) ?_))
  have e:i=x.length:=by omega
  subst e
  have h1:=val_take_set (x:=o) (i:=x.length) (by omega) ((b:Nat):Int)
  rw[val_take_len (by rw[List.length_set];omega),Int.toNat_natCast]at h1
  rw[List.take_length]at hv
  have:valN (o.set x.length (b:Int))=2 * valN x+b0:=by rw[h1,Nat.mul_comm];exact hv
  rw[←this,Int.toNat_natCast]
  exact Ev.bind (short_f (u32s_set hu _ (by omega)) (by rw[List.length_set];omega)) (Ev.now _)
 |d+1,i,o,b,hi,ho,hu,hb,hv=>by
  refine Ev.step (fun k=>by rw[fluxionref01_twice.l0]) ?_
  refine Ev.yes (by omega) (Ev.yes (by omega) (Ev.yes (by omega) ?_))
  have h1:=dgt_lt hx i
  rw[rd_dgt hx]
  have e1:((dgt x i:Nat):Int) * 2 % 4294967296=((2 ^ 1 * (dgt x i % 2147483648):Nat):Int):=by omega
  have e2:((dgt x i:Nat):Int) / 2147483648=((dgt x i / 2147483648:Nat):Int):=by omega
  rw[e1,e2,bits_or_u32_nat _ _ (by omega) (by omega),or_add _ _ _ (by omega),wnx i (by omega),Int.toNat_natCast]
  refine refTwice_l0 hx hs b0 d (i+1) _ _ (by omega) (by rw[List.length_set];exact ho) (u32s_set hu i (by omega)) (by omega) ?_
  rw[val_take_set (by omega),val_take_succ,Int.toNat_natCast,powB i]
  generalize 4294967296 ^ i=B at *
  generalize valN (o.take i)=O at *
  generalize valN (x.take i)=X at *
  generalize dgt x i=p at *
  have key:2 ^ 1 * (p % 2147483648) +b+p / 2147483648 * 4294967296=2 * p+b:=by omega
  generalize 2 ^ 1 * (p % 2147483648) +b=r at *
  generalize p / 2147483648=c at *
  have k2:B * (r+c * 4294967296)=B * (2 * p+b):=by rw[key]
  rw[Nat.mul_add,Nat.mul_add]at k2
  have k3:B * (c * 4294967296)=c * (B * 4294967296):=by rw[Nat.mul_left_comm]
  have k4:B * (2 * p)=2 * (B * p):=by rw[Nat.mul_left_comm]
  rw[k3,k4]at k2
  rw[Nat.mul_comm b B]at hv
  omega
theorem refTwice_f{x:List Int}(hx:u32s x)(hs:x.length< 4294967000)(b:Nat)(hb:b≤1):Ev (fun k=>fluxionref01_twice.f k x b) (digN (2 * valN x+b)):=by
 unfold fluxionref01_twice.f
 rw[wnx x.length (by omega)]
 refine Ev.yes (by omega) (Ev.yes (by omega) ?_)
 rw[Int.toNat_natCast]
 exact refTwice_l0 hx hs b x.length 0 _ b (by omega) (by simp) (u32s_zeros _) hb (by simp[valN])
theorem val_split(x:List Int)(i:Nat):valN x=valN (x.take i) +4294967296 ^ i * valN (x.drop i):=by
 by_cases h:i≤x.length
 ·conv=>lhs;rw[←List.take_append_drop i x]
  rw[val_append,List.length_take,Nat.min_eq_left h]
 ·rw[List.drop_eq_nil_of_le (by omega),List.take_of_length_le (by omega)];simp[valN]
theorem refHalf_l0{x:List Int}(hx:u32s x)(hs:x.length< 4294967000): ∀i (o:List Int) (b:Nat),i≤x.length→o.length=x.length→u32s o→b≤1→valN (x.drop i)=2 * valN (o.drop i) +b→
  Ev (fun k=>fluxionref01_half.l0 k x o b ((i:Int) - 1)) (digN (valN x / 2))
 |0,o,b,hi,ho,hu,hb,hv=>by
  refine Ev.step (fun k=>by rw[fluxionref01_half.l0]) ?_
  refine Ev.no (by omega) ?_
  rw[List.drop_zero,List.drop_zero]at hv
  have:valN x / 2=valN o:=by omega
  rw[this]
  exact Ev.bind (short_f hu (by omega)) (Ev.now _)
 |i+1,o,b,hi,ho,hu,hb,hv=>by
  refine Ev.step (fun k=>by rw[fluxionref01_half.l0]) ?_
  have e:((i+1:Nat):Int) - 1=(i:Int):=by omega
  rw[e,rd_dgt hx,w64 _ (by omega)]
  refine Ev.yes (by omega) (Ev.yes (by omega) (Ev.yes (by omega) (Ev.yes (by omega) ?_)))
  have h1:=dgt_lt hx i
  have e1:((dgt x i:Nat):Int) / 2=((dgt x i / 2:Nat):Int):=by omega
  have e2:(b:Int) * 2147483648 % 4294967296=((2 ^ 31 * b:Nat):Int):=by omega
  have e3:Int.tmod ((dgt x i:Nat):Int) 2=((dgt x i % 2:Nat):Int):=by rw[Int.tmod_eq_emod_of_nonneg (by omega)];omega
  rw[e1,e2,e3,bits_or_u32_nat _ _ (by omega) (by omega),Nat.or_comm,or_add _ _ _ (by omega),Int.toNat_natCast]
  refine refHalf_l0 hx hs i _ _ (by omega) (by rw[List.length_set];exact ho) (u32s_set hu i (by omega)) (by omega) ?_
  rw[val_drop_set (by omega),val_drop,Int.toNat_natCast]
  omega
theorem refHalf_f{x:List Int}(hx:u32s x)(hs:x.length< 4294967000):Ev (fun k=>fluxionref01_half.f k x) (digN (valN x / 2)):=by
 unfold fluxionref01_half.f
 refine Ev.yes (by omega) (Ev.yes (by omega) ?_)
 rw[w64 _ (by omega),Int.toNat_natCast]
 exact refHalf_l0 hx hs x.length _ 0 (by omega) List.length_replicate (u32s_zeros _) (by omega) (by rw[List.drop_length,List.drop_eq_nil_of_le (by simp)];rfl)
def nb(n:Nat):Nat:=if h:n=0 then 0 else nb (n / 2) +1
 termination_by n
 decreasing_by omega
theorem nb_zero:nb 0=0:=by rw[nb];rfl
theorem nb_pos{n:Nat}(h:n≠0):nb n=nb (n / 2) +1:=by rw[nb,dif_neg h]
theorem nb_lt(n:Nat):n< 2 ^ nb n:=by
 induction n using Nat.strongRecOn with
 |_ n ih=>
  by_cases h:n=0
  ·subst h;rw[nb_zero];decide
  ·have:=ih (n / 2) (by omega);rw[nb_pos h,Nat.pow_succ];omega
theorem nb_le{n k:Nat}(h:n< 2 ^ k):nb n≤k:=by
 induction k generalizing n with
 |zero=>
      have:n=0:=by simpa using h
      rw[this,nb_zero];exact Nat.le_refl _
 |succ k ih=>
  by_cases h0:n=0
  ·rw[h0,nb_zero];omega
  ·rw[nb_pos h0];rw[Nat.pow_succ]at h;have:=ih (n:=n / 2) (by omega);omega
theorem nb_ge{n k:Nat}(h:2 ^ k≤n):k< nb n:=by
 refine Nat.lt_of_not_le fun hk=>?_
 have h1:=nb_lt n
 have:2 ^ nb n≤2 ^ k:=Nat.pow_le_pow_right (by decide) hk
 omega
theorem refBits_l0: ∀ (n c:Nat),c+n< 8589934592→Ev (fun k=>fluxionref01_Bits.l0 k c n) ((c+nb n:Nat):Int):=by
 intro n
 induction n using Nat.strongRecOn with
 |_ n ih=>
  intro c hc
  refine Ev.step (fun k=>by rw[fluxionref01_Bits.l0]) ?_
  by_cases h:n=0
  ·subst h;refine Ev.no (by omega) (Ev.is ?_);rw[nb_zero];rfl
  ·refine Ev.yes (by omega) ?_
   have e1:Int.tdiv (n:Int) 2=((n / 2:Nat):Int):=by rw[Int.tdiv_eq_ediv_of_nonneg (by omega)];omega
   have:=ih (n / 2) (by omega) (c+1) (by omega)
   rw[e1,wnx c (by omega)]
   rw[nb_pos h,show c+ (nb (n / 2) +1)=c+1+nb (n / 2)by omega]
   by_cases hn:n / 2< 4294967296
   ·have e2:((n / 2:Nat):Int) % 4294967296=((n / 2:Nat):Int):=by omega
    rw[e2];exact this
   ·omega
theorem pow32(i:Nat):(4294967296:Nat) ^ i=2 ^ (32 * i):=by rw[Nat.pow_mul]
theorem dgt_val{x:List Int}(h:u32s x)(j:Nat):dgt x j=valN x / 4294967296 ^ j % 4294967296:=by
 have h1:=val_take_lt h j
 have h2:=dgt_lt h j
 rw[val_split x j,val_drop,Nat.add_mul_div_left _ _ (by exact Nat.pow_pos (by decide)),Nat.div_eq_of_lt h1]
 omega
theorem nb_two(n k:Nat)(h:2 ^ k≤n)(h2:n< 2 ^ (k+1)):nb n=k+1:=Nat.le_antisymm (nb_le h2) (nb_ge h)
theorem nb_top{x:List Int}(h:canon x){k:Nat}(hk:x.length=k+1):nb (valN x)=32 * k+nb (dgt x k):=by
 have hx:x≠ [] :=by intro e;rw[e]at hk;simp at hk
 have e:=val_take_succ x k
 rw[val_take_len (by omega)]at e
 have h1:=val_take_lt h.1 k
 have hd:dgt x k≠0:=by
  intro h0;rw[h0]at e
  have:=val_ge h hk;omega
 have hn:=nb_lt (dgt x k)
 obtain⟨j,hj⟩: ∃j,nb (dgt x k)=j+1:=⟨nb (dgt x k / 2),nb_pos hd⟩
 have hlow:2 ^ j≤dgt x k:=by
  refine Nat.le_of_not_lt fun hl=>?_
  have:=nb_le hl;omega
 rw[hj]at hn ⊢
 rw[←Nat.add_assoc]
 apply nb_two
 ·rw[e,pow32,Nat.pow_add]
  exact Nat.le_trans (Nat.mul_le_mul_left _ hlow) (Nat.le_add_left _ _)
 ·rw[pow32]at e h1
  have h3:dgt x k+1≤2 ^ (j+1):=hn
  have h4:=Nat.mul_le_mul_left (2 ^ (32 * k)) h3
  rw[Nat.mul_add,Nat.mul_one]at h4
  rw[show 32 * k+j+1=32 * k+ (j+1)by omega,Nat.pow_add,e];omega
theorem refBits_f{x:List Int}(h:canon x)(hs:x.length< 100000000):Ev (fun k=>fluxionref01_Bits.f k x) ((nb (valN x):Nat):Int):=by
 unfold fluxionref01_Bits.f
 by_cases h0:x.length=0
 ·have e:x= [] :=List.length_eq_zero_iff.1 h0
  subst e
  refine Ev.yes rfl (Ev.is ?_)
  show(0:Int)=((nb 0:Nat):Int);rw[nb_zero];rfl
 ·obtain⟨k,hk⟩: ∃k,x.length=k+1:=⟨x.length - 1,by omega⟩
  have h2:=dgt_lt h.1 k
  rw[wpx x.length (by omega) (by omega),hk,Nat.add_sub_cancel,rd_dgt h.1]
  refine Ev.no (by omega) (Ev.yes (by omega) (Ev.yes (by omega) ?_))
  have e:wrap64 (32 * (k:Int))=((32 * k:Nat):Int):=by unfold wrap64;omega
  rw[e,nb_top h hk]
  exact refBits_l0 _ _ (by omega)
theorem refLong_f{x:List Int}(h:canon x)(hs:x.length< 100000000):Ev (fun k=>fluxionref02_Long.f k x) (decide (4096< nb (valN x))):=by
 unfold fluxionref02_Long.f
 refine Ev.bind (refBits_f h hs) (Ev.is ?_)
 rw[decide_eq_decide];omega
def bt2(n i:Nat):Nat:=n / 2 ^ i % 2
theorem bt2_le(n i:Nat):bt2 n i≤1:=by unfold bt2;omega
theorem refBit_f{x:List Int}(h:u32s x){i:Nat}(hi:i< 32 * x.length)(hs:x.length< 100000000):fluxionref01_bit.f x i=some ((bt2 (valN x) i:Nat):Int):=by
 unfold fluxionref01_bit.f
 have e1:Int.tdiv (i:Int) 32=((i / 32:Nat):Int):=by rw[Int.tdiv_eq_ediv_of_nonneg (by omega)];omega
 have e2:Int.tmod (i:Int) 32=((i % 32:Nat):Int):=by rw[Int.tmod_eq_emod_of_nonneg (by omega)];omega
 rw[e1,e2,w64 ((i / 32:Nat):Int) (by omega),if_pos (by omega),if_pos (by omega),if_pos (by omega),rd_dgt h]
 have e3:min (((i % 32:Nat):Int)).toNat (IntKind.bits .u32)=i % 32:=by show min (i % 32) 32=_;omega
 have e4:((dgt x (i / 32):Nat):Int) / 2 ^ (i % 32)=((dgt x (i / 32) / 2 ^ (i % 32):Nat):Int):=by simp
 unfold shr;rw[e3,e4,Int.tmod_eq_emod_of_nonneg (Int.natCast_nonneg _),dgt_val h]
 unfold bt2
 congr 1
 have e5:i=32 * (i / 32) +i % 32:=by omega
 have e6:valN x / 2 ^ i=valN x / 4294967296 ^ (i / 32) / 2 ^ (i % 32):=by conv=>lhs;rw[e5,Nat.pow_add,←Nat.div_div_eq_div_mul,←pow32]
 rw[e6]
 generalize valN x / 4294967296 ^ (i / 32)=m
 have hr:i % 32< 32:=by omega
 generalize i % 32=r at hr
 obtain⟨s,hs'⟩: ∃s,32=r+ (s+1):=⟨31 - r,by omega⟩
 have e7:m=4294967296 * (m / 4294967296) +m % 4294967296:=by omega
 generalize m / 4294967296=a at e7
 generalize m % 4294967296=b at e7
 subst e7
 have e8:(4294967296:Nat) * a=2 ^ r * (2 * (2 ^ s * a)):=by
  have:(4294967296:Nat)=2 ^ r * (2 * 2 ^ s):=by
   have h32:(4294967296:Nat)=2 ^ 32:=by decide
   rw[h32,hs',Nat.pow_add,Nat.pow_succ,Nat.mul_comm (2 ^ s) 2]
  rw[this];simp[Nat.mul_assoc]
 rw[e8,Nat.mul_add_div (Nat.pow_pos (by decide))]
 omega
theorem dm_step(X Y b:Nat)(hY:0< Y)(hb:b≤1):(Y≤2 * (X % Y) +b→(2 * X+b) / Y=2 * (X / Y) +1∧(2 * X+b) % Y=2 * (X % Y) +b - Y)∧(¬Y≤2 * (X % Y) +b→(2 * X+b) / Y=2 * (X / Y)∧(2 * X+b) % Y=2 * (X % Y) +b):=by
 have h1:=Nat.mod_lt X hY
 have h2:=Nat.div_add_mod X Y
 have e:2 * X+b=Y * (2 * (X / Y)) + (2 * (X % Y) +b):=by
  have:Y * (2 * (X / Y))=2 * (Y * (X / Y)):=Nat.mul_left_comm _ _ _
  rw[this];omega
 generalize 2 * (X / Y)=c at e
 have hr:2 * (X % Y) +b< 2 * Y:=by omega
 generalize 2 * (X % Y) +b=r at e hr
 rw[e]
 constructor
 ·intro h
  rw[Nat.mul_add_div hY,Nat.mul_add_mod]
  refine⟨?_,?_⟩
  ·rw[Nat.div_eq_of_lt_le (k:=1) (by omega) (by omega)]
  ·rw[Nat.mod_eq_sub_mod h,Nat.mod_eq_of_lt (by omega)]
 ·intro h
  rw[Nat.mul_add_div hY,Nat.mul_add_mod,Nat.div_eq_of_lt (by omega),Nat.mod_eq_of_lt (by omega)];exact⟨rfl,rfl⟩
theorem bt2_step(n i:Nat):n / 2 ^ i=2 * (n / 2 ^ (i+1)) +bt2 n i:=by
 unfold bt2;rw[Nat.pow_succ,←Nat.div_div_eq_div_mul];omega
theorem set_bit{q:List Int}(hq:u32s q){i:Nat}(hi:i< 32 * q.length)(hz:valN q % 2 ^ (i+1)=0):
  u32s (q.set (i / 32) (((dgt q (i / 32) +2 ^ (i % 32):Nat)):Int))∧valN (q.set (i / 32) (((dgt q (i / 32) +2 ^ (i % 32):Nat)):Int))=valN q+2 ^ i∧dgt q (i / 32) |||2 ^ (i % 32)=dgt q (i / 32) +2 ^ (i % 32)∧2 ^ (i % 32)< 4294967296:=by
 have hr:i % 32< 32:=by omega
 have h2r:2 ^ (i % 32) * 2 ^ (31 - i % 32)=2147483648:=by rw[←Nat.pow_add,show i % 32+ (31 - i % 32)=31 by omega]
 have hd:=dgt_lt hq (i / 32)
 have hdv:dgt q (i / 32) % 2 ^ (i % 32+1)=0:=by
  rw[dgt_val hq,pow32]
  have e:i+1=32 * (i / 32) + (i % 32+1):=by omega
  obtain⟨c,hc⟩:=Nat.dvd_of_mod_eq_zero hz
  rw[hc,e,Nat.pow_add,Nat.mul_assoc,Nat.mul_div_cancel_left _ (Nat.pow_pos (by decide))]
  have e3:(4294967296:Nat)=2 ^ (i % 32+1) * 2 ^ (31 - i % 32):=by rw[←Nat.pow_add,show i % 32+1+ (31 - i % 32)=32 by omega]
  rw[e3,Nat.mod_mul_right_mod,Nat.mul_mod_right]
 obtain⟨c,hc⟩:=Nat.dvd_of_mod_eq_zero hdv
 have hc2:2 ^ (i % 32+1)=2 ^ (i % 32) * 2:=by rw[Nat.pow_succ]
 have hor:dgt q (i / 32) |||2 ^ (i % 32)=dgt q (i / 32) +2 ^ (i % 32):=by
  have hp:2 ^ (i % 32)< 2 ^ (i % 32+1):=Nat.pow_lt_pow_right (by decide) (by omega)
  rw[hc,or_add _ _ _ hp]
 have hlt:2 ^ (i % 32)< 4294967296:=Nat.lt_of_lt_of_le (Nat.pow_lt_pow_right (by decide) hr) (by decide)
 have hsum:dgt q (i / 32) +2 ^ (i % 32)< 4294967296:=by
  rw[←hor];exact Nat.or_lt_two_pow (n:=32) hd hlt
 refine⟨u32s_set hq _ (by omega),?_,hor,hlt⟩
 have hv:=val_set (x:=q) (i:=i / 32) (by omega) (((dgt q (i / 32) +2 ^ (i % 32):Nat)):Int)
 rw[Int.toNat_natCast,Nat.mul_add]at hv
 have e4:4294967296 ^ (i / 32) * 2 ^ (i % 32)=2 ^ i:=by rw[pow32,←Nat.pow_add,show 32 * (i / 32) +i % 32=i by omega]
 rw[e4]at hv;omega
theorem mul_two_pow(q i:Nat):q * 2 ^ (i+1)=2 * q * 2 ^ i:=by rw[Nat.pow_succ,Nat.mul_comm (2 ^ i) 2,←Nat.mul_assoc,Nat.mul_comm q 2]
theorem cmpI_ge(a b:Nat):(cmpI a b≥0)↔b≤a:=by unfold cmpI;split<;>(try split)<;>omega
theorem cmpI_gt(a b:Nat):(cmpI a b >0)↔b< a:=by unfold cmpI;split<;>(try split)<;>omega
set_option maxHeartbeats 2000000 in
theorem refDiv_l0{x y:List Int}(hx:u32s x)(hy:canon y)(hy0:y≠ [])(hs:x.length< 100000000)(hys:y.length< 100000000): ∀i (q:List Int),i≤32 * x.length→q.length=x.length→u32s q→valN q=valN x / 2 ^ i / valN y * 2 ^ i→
  Ev (fun k=>fluxionref01_Div.l0 k x y q (digN (valN x / 2 ^ i % valN y)) ((i:Int) - 1)) (digN (valN x / valN y),digN (valN x % valN y)):=by
 intro i
 induction i with
 |zero=>
  intro q hi hl hu hq
  refine Ev.step (fun k=>by rw[fluxionref01_Div.l0]) ?_
  refine Ev.no (by omega) ?_
  simp only[Nat.pow_zero,Nat.div_one,Nat.mul_one]at hq
  rw[Nat.pow_zero,Nat.div_one,←hq]
  exact Ev.bind (short_f hu (by omega)) (Ev.now _)
 |succ i ih0=>
  intro q hi hl hu hq
  have hY:=val_pos hy hy0
  have hb:=bt2_le (valN x) i
  have hst:=bt2_step (valN x) i
  have hdm:=dm_step (valN x / 2 ^ (i+1)) (valN y) (bt2 (valN x) i) hY hb
  have hrl:(digN (valN x / 2 ^ (i+1) % valN y)).length≤y.length:=len_digN_le (Nat.lt_trans (Nat.mod_lt _ hY) (val_lt hy.1))
  refine Ev.step (fun k=>by rw[fluxionref01_Div.l0]) ?_
  have e:((i+1:Nat):Int) - 1=(i:Int):=by omega
  rw[e]
  refine Ev.yes (by omega) ?_
  refine Ev.bind (Ev.con (refBit_f hx (show i< 32 * x.length by omega) hs)) ?_
  refine Ev.bind (refTwice_f (u32s_digN _) (by omega) _ hb) ?_
  rw[val_digN]
  have hlen2:(digN (2 * (valN x / 2 ^ (i+1) % valN y) +bt2 (valN x) i)).length≤y.length+1:=by
   apply len_digN_le
   have h1:=Nat.mod_lt (valN x / 2 ^ (i+1)) hY
   have h2:=val_lt hy.1
   rw[powB]
   have:1≤4294967296 ^ y.length:=Nat.pow_pos (by decide)
   generalize 4294967296 ^ y.length=B at *
   omega
  refine Ev.bind (refCompare_f (canon_digN _) hy (by omega)) ?_
  rw[val_digN]
  have e1:Int.tdiv (i:Int) 32=((i / 32:Nat):Int):=by rw[Int.tdiv_eq_ediv_of_nonneg (by omega)];omega
  have e2:Int.tmod (i:Int) 32=((i % 32:Nat):Int):=by rw[Int.tmod_eq_emod_of_nonneg (by omega)];omega
  rw[w64 ((i:Int) - 1) (by omega)]
  by_cases hge:valN y≤2 * (valN x / 2 ^ (i+1) % valN y) +bt2 (valN x) i
  ·refine Ev.yes ((cmpI_ge _ _).2 hge) (Ev.bind (refSub_f (u32s_digN _) hy (by rw[val_digN];exact hge) (by omega)) ?_)
   rw[val_digN,e1,e2,w64 ((i / 32:Nat):Int) (by omega)]
   have hz:valN q % 2 ^ (i+1)=0:=by rw[hq,Nat.mul_mod_left]
   obtain⟨b1,b2,b3,b4⟩:=set_bit hu (i:=i) (by omega) hz
   have e3:shl .u32 1 ((i % 32:Nat):Int)=((2 ^ (i % 32):Nat):Int):=by
    have e:min (((i % 32:Nat):Int)).toNat (IntKind.bits .u32)=i % 32:=by show min (i % 32) 32=_;omega
    have e2:(2:Int) ^ (i % 32)=((2 ^ (i % 32):Nat):Int):=by simp
    unfold shl;rw[e,Int.one_mul,e2,IntKind.wrap_u32];generalize (2:Nat) ^ (i % 32)=z at b4 ⊢;omega
   refine Ev.yes (by omega) (Ev.yes (by omega) (Ev.yes (by omega) ?_))
   rw[e3,rd_dgt hu,bits_or_u32_nat _ _ (dgt_lt hu _) b4,b3,Int.toNat_natCast]
   have ih:=ih0 (q.set (i / 32) (((dgt q (i / 32) +2 ^ (i % 32):Nat)):Int)) (by omega) (by rw[List.length_set];exact hl) b1 (by
    rw[b2,hq,hst,(hdm.1 hge).1,mul_two_pow,Nat.add_mul,Nat.one_mul])
   rw[hst,(hdm.1 hge).2]at ih;exact ih
  ·refine Ev.no (fun h=>hge ((cmpI_ge _ _).1 h)) ?_
   have ih:=ih0 q (by omega) hl hu (by
    rw[hq,hst,(hdm.2 hge).1,mul_two_pow])
   rw[hst,(hdm.2 hge).2]at ih;exact ih
theorem refDiv_f{x y:List Int}(hx:canon x)(hy:canon y)(hy0:y≠ [])(hs:x.length< 100000000)(hys:y.length< 100000000):Ev (fun k=>fluxionref01_Div.f k x y) (digN (valN x / valN y),digN (valN x % valN y)):=by
 unfold fluxionref01_Div.f
 have hnb:nb (valN x)≤32 * x.length:=nb_le (by rw[←pow32];exact val_lt hx.1)
 refine Ev.yes (by omega) (Ev.yes (by omega) (Ev.bind (refBits_f hx hs) ?_))
 rw[w64 (((nb (valN x):Nat):Int) - 1) (by omega),Int.toNat_natCast]
 have h0:valN x / 2 ^ nb (valN x)=0:=Nat.div_eq_of_lt (nb_lt _)
 have:=refDiv_l0 hx.1 hy hy0 hs hys (nb (valN x)) (List.replicate x.length 0) hnb List.length_replicate (u32s_zeros _) (by rw[h0,val_zeros];simp)
 rw[h0,Nat.zero_mod,digN_zero]at this;exact this
theorem gcd_half{X Y:Nat}(hX:X % 2=0)(hY:Y % 2=1):Nat.gcd (X / 2) Y=Nat.gcd X Y:=by
 have hc:Nat.Coprime 2 Y:=by show Nat.gcd 2 Y=1;rw[Nat.gcd_rec,hY];decide
 have e:X=2 * (X / 2):=by omega
 conv=>rhs;rw[e]
 exact(hc.gcd_mul_left_cancel _).symm
theorem gcd_less{X Y:Nat}(h:X≤Y):Nat.gcd X (Y - X)=Nat.gcd X Y:=by
 have e:Y=(Y - X) +X:=by omega
 conv=>rhs;rw[e]
 rw[Nat.gcd_add_self_right]
theorem first_digit{x:List Int}(h:u32s x):Int.tmod (rd x 0) 2=((valN x % 2:Nat):Int):=by
 have h1:=dgt_lt h 0
 have e:valN x=dgt x 0+4294967296 * valN (x.drop 1):=by have:=val_drop (x:=x) (i:=0);rw[List.drop_zero]at this;exact this
 have e2:rd x 0=((dgt x 0:Nat):Int):=rd_dgt h 0
 rw[e2,Int.tmod_eq_emod_of_nonneg (Int.natCast_nonneg _),e];omega
theorem ne_nil_of_val{x:List Int}(h:0< valN x):0< x.length:=by
 cases x with
 |nil=>exact absurd h (by simp[valN])
 |cons a x=>simp
theorem small_len{n L:Nat}(h:n< 4294967296 ^ L)(hL:L< 1000000):(digN n).length< 1000000:=Nat.lt_of_le_of_lt (len_digN_le h) hL
theorem even_or(n:Nat):n % 2=0∨n % 2=1:=by omega
theorem refGcd_l4{L:Nat}(hL:L< 1000000)(g t:Nat)(ht:t< 4294967296)(hg:g * 2 ^ t< 4294967296 ^ L): ∀d i,i+d=t→Ev (fun k=>fluxionref01_Gcd.l4 k (digN (g * 2 ^ i)) t i) (digN (g * 2 ^ t)):=by
 intro d
 induction d with
 |zero=>
  intro i hi
  have e:i=t:=by omega
  subst e
  have:=small_len hg hL
  refine Ev.step (fun k=>by rw[fluxionref01_Gcd.l4]) ?_
  refine Ev.no (by omega) ?_
  simp only[Option.bind_some,List.nil_append,List.length_nil]
  exact Ev.yes (by omega) (Ev.now _)
 |succ d ih=>
  intro i hi
  have h1:g * 2 ^ i< 4294967296 ^ L:=Nat.lt_of_le_of_lt (Nat.mul_le_mul_left _ (Nat.pow_le_pow_right (by decide) (by omega))) hg
  have h2:=small_len h1 hL
  refine Ev.step (fun k=>by rw[fluxionref01_Gcd.l4]) ?_
  refine Ev.yes (by omega) ?_
  rw[wnx i (by omega)]
  refine Ev.bind (refTwice_f (u32s_digN _) (by omega) 0 (by omega)) ?_
  have e:2 * valN (digN (g * 2 ^ i)) +0=g * 2 ^ (i+1):=by rw[val_digN,Nat.pow_succ,Nat.add_zero,Nat.mul_left_comm,Nat.mul_comm 2 (2 ^ i)]
  rw[e];exact ih (i+1) (by omega)
theorem refGcd_l3{L:Nat}(hL:L< 1000000)(t:Nat)(R:List Int)(s:Nat)(hs:s< 4294967296 ^ L)
  (P1: ∀X Y,X+Y< s→0< X→X % 2=1→Ev (fun k=>fluxionref01_Gcd.l1 k (digN X) (digN Y) t) (digN (Nat.gcd X Y * 2 ^ t))) (X:Nat) (hX:X % 2=1):
  ∀Y,0< Y→X+Y≤s→Ev (fun k=>fluxionref01_Gcd.l3 k (digN X) (digN Y) t) (digN (Nat.gcd X Y * 2 ^ t)):=by
 intro Y
 induction Y using Nat.strongRecOn with
 |_ Y ih=>
  intro hY hXY
  have l1:=small_len (n:=X) (L:=L) (by omega) hL
  have l2:=small_len (n:=Y) (L:=L) (by omega) hL
  have p2:=ne_nil_of_val (x:=digN Y) (by rw[val_digN];exact hY)
  refine Ev.step (fun k=>by rw[fluxionref01_Gcd.l3]) ?_
  refine Ev.yes (by omega) ?_
  rw[first_digit (u32s_digN Y),val_digN]
  rcases even_or Y with h|h
  ·refine Ev.yes (by omega) (Ev.bind (refHalf_f (u32s_digN Y) (by omega)) ?_)
   rw[val_digN]
   have:=ih (Y / 2) (by omega) (by omega) (by omega)
   rw[Nat.gcd_comm X,gcd_half h hX,Nat.gcd_comm]at this;exact this
  ·refine Ev.no (by omega) (Ev.bind (refCompare_f (canon_digN X) (canon_digN Y) (by omega)) ?_)
   rw[val_digN,val_digN]
   by_cases hc:Y< X
   ·refine Ev.yes ((cmpI_gt _ _).2 hc) (Ev.bind (refSub_f (u32s_digN X) (canon_digN Y) (by rw[val_digN,val_digN];omega) (by omega)) ?_)
    rw[val_digN,val_digN]
    have:=P1 Y (X - Y) (by omega) hY h
    rw[gcd_less (by omega),Nat.gcd_comm]at this;exact this
   ·refine Ev.no (fun h=>hc ((cmpI_gt _ _).1 h)) (Ev.bind (refSub_f (u32s_digN Y) (canon_digN X) (by rw[val_digN,val_digN];omega) (by omega)) ?_)
    rw[val_digN,val_digN]
    have:=P1 X (Y - X) (by omega) (by omega) hX
    rw[gcd_less (by omega)]at this;exact this
theorem refGcd_l2{L:Nat}(hL:L< 1000000)(t:Nat)(s:Nat)(hs:s< 4294967296 ^ L)(Y:Nat)(hY:0< Y)
  (P3: ∀X,X % 2=1→X+Y≤s→Ev (fun k=>fluxionref01_Gcd.l3 k (digN X) (digN Y) t) (digN (Nat.gcd X Y * 2 ^ t))):
  ∀X,0< X→(X % 2=1∨Y % 2=1)→X+Y≤s→Ev (fun k=>fluxionref01_Gcd.l2 k (digN X) (digN Y) t) (digN (Nat.gcd X Y * 2 ^ t)):=by
 intro X
 induction X using Nat.strongRecOn with
 |_ X ih=>
  intro hX ho hXY
  have l1:=small_len (n:=X) (L:=L) (by omega) hL
  have p1:=ne_nil_of_val (x:=digN X) (by rw[val_digN];exact hX)
  refine Ev.step (fun k=>by rw[fluxionref01_Gcd.l2]) ?_
  refine Ev.yes (by omega) ?_
  rw[first_digit (u32s_digN X),val_digN]
  rcases even_or X with h|h
  ·refine Ev.yes (by omega) (Ev.bind (refHalf_f (u32s_digN X) (by omega)) ?_)
   rw[val_digN]
   have hY1:Y % 2=1:=by omega
   have:=ih (X / 2) (by omega) (by omega) (.inr hY1) (by omega)
   rw[gcd_half h hY1]at this;exact this
  ·exact Ev.no (by omega) (P3 X h hXY)
theorem refGcd_l1{L:Nat}(hL:L< 1000000)(t:Nat)(ht:t< 4294967296): ∀s X Y,X+Y=s→s * 2 ^ t< 4294967296 ^ L→0< X→(X % 2=1∨Y % 2=1)→(Y=0→X % 2=1)→Ev (fun k=>fluxionref01_Gcd.l1 k (digN X) (digN Y) t) (digN (Nat.gcd X Y * 2 ^ t)):=by
 intro s
 induction s using Nat.strongRecOn with
 |_ s ih=>
  intro X Y hs hb hX ho h0
  have hsb:s< 4294967296 ^ L:=Nat.lt_of_le_of_lt (Nat.le_mul_of_pos_right _ (Nat.pow_pos (by decide))) hb
  refine Ev.step (fun k=>by rw[fluxionref01_Gcd.l1]) ?_
  rcases Nat.eq_zero_or_pos Y with hY|hY
  ·subst hY
   rw[digN_zero,Nat.gcd_zero_right]
   refine Ev.no (by simp) ?_
   have hle:X * 2 ^ t< 4294967296 ^ L:=Nat.lt_of_le_of_lt (Nat.mul_le_mul_right _ (by omega)) hb
   have:=refGcd_l4 hL X t ht hle t 0 (by omega)
   rw[Nat.pow_zero,Nat.mul_one]at this;exact this
  ·have p2:=ne_nil_of_val (x:=digN Y) (by rw[val_digN];exact hY)
   refine Ev.yes (by omega) ?_
   refine refGcd_l2 hL t s hsb Y hY (fun X' hX' hXY'=>?_) X hX ho (by omega)
   refine refGcd_l3 hL t [] s hsb (fun X2 Y2 h2 hp hodd=>?_) X' hX' Y hY hXY'
   exact ih (X2+Y2) h2 X2 Y2 rfl (Nat.lt_of_le_of_lt (Nat.mul_le_mul_right _ (by omega)) hb) hp (.inl hodd) (fun _=>hodd)
theorem refGcd_l0{L:Nat}(hL:L< 1000000)(G:Nat): ∀ (s X Y t:Nat),X+Y=s→(X+Y) * 2 ^ t< 4294967296 ^ L→0< X→0< Y→t< 33000000→Nat.gcd X Y * 2 ^ t=G→Ev (fun k=>fluxionref01_Gcd.l0 k (digN X) (digN Y) t) (digN G):=by
 intro s
 induction s using Nat.strongRecOn with
 |_ s ih=>
  intro X Y t hs hb hX hY ht hG
  have hsb:X+Y< 4294967296 ^ L:=Nat.lt_of_le_of_lt (Nat.le_mul_of_pos_right _ (Nat.pow_pos (by decide))) hb
  have l1:=small_len (n:=X) (L:=L) (by omega) hL
  have l2:=small_len (n:=Y) (L:=L) (by omega) hL
  have p1:=ne_nil_of_val (x:=digN X) (by rw[val_digN];exact hX)
  have p2:=ne_nil_of_val (x:=digN Y) (by rw[val_digN];exact hY)
  have out:(X % 2=1∨Y % 2=1)→Ev (fun k=>fluxionref01_Gcd.j1 k (digN X) (digN Y) t false) (digN G):=by
   intro ho
   refine Ev.step (fun k=>by rw[fluxionref01_Gcd.j1]) ?_
   refine Ev.no (by decide) ?_
   rw[←hG]
   exact refGcd_l1 hL t (by omega) (X+Y) X Y rfl hb hX ho (by omega)
  refine Ev.step (fun k=>by rw[fluxionref01_Gcd.l0]) ?_
  refine Ev.yes (by omega) ?_
  rw[first_digit (u32s_digN X),first_digit (u32s_digN Y),val_digN,val_digN]
  rcases even_or X with h|h
  ·refine Ev.yes (by omega) (Ev.yes (by omega) ?_)
   rcases even_or Y with h2|h2
   ·have e:(((Y % 2:Nat):Int)==0)=true:=by rw[h2];rfl
    rw[e]
    refine Ev.step (fun k=>by rw[fluxionref01_Gcd.j1]) ?_
    refine Ev.yes rfl (Ev.bind (refHalf_f (u32s_digN X) (by omega)) (Ev.bind (refHalf_f (u32s_digN Y) (by omega)) ?_))
    rw[val_digN,val_digN,wnx t (by omega)]
    have hp:2 ^ (t+1)=2 ^ t * 2:=by rw[Nat.pow_succ]
    have e3:(X / 2+Y / 2) * 2 ^ (t+1)=(X+Y) * 2 ^ t:=by
     rw[hp,Nat.mul_comm (2 ^ t) 2,←Nat.mul_assoc];congr 1;omega
    have e4:Nat.gcd (X / 2) (Y / 2) * 2 ^ (t+1)=G:=by
     have eX:X=2 * (X / 2):=by omega
     have eY:Y=2 * (Y / 2):=by omega
     rw[←hG]
     conv=>rhs;rw[eX,eY]
     rw[Nat.gcd_mul_left,hp,Nat.mul_comm (2 ^ t) 2,←Nat.mul_assoc,Nat.mul_comm 2]
    have ht2:t+1< 33000000:=by
     have h32:2 ^ (t+1)≤(X+Y) * 2 ^ t:=by rw[hp,Nat.mul_comm];exact Nat.mul_le_mul_right _ (by omega)
     have h33:2 ^ (t+1)< 2 ^ (32 * L):=by rw[←pow32];omega
     have:=(Nat.pow_lt_pow_iff_right (a:=2) (by decide)).1 h33
     omega
    exact ih (X / 2+Y / 2) (by omega) (X / 2) (Y / 2) (t+1) rfl (by rw[e3];exact hb) (by omega) (by omega) ht2 e4
   ·have e:(((Y % 2:Nat):Int)==0)=false:=by rw[h2];rfl
    rw[e];exact out (.inr h2)
  ·exact Ev.no (by omega) (out (.inl h))
theorem refGcd_f{x y:List Int}(hx:canon x)(hy:canon y)(hs:x.length< 400000)(hys:y.length< 400000):Ev (fun k=>fluxionref01_Gcd.f k x y) (digN (Nat.gcd (valN x) (valN y))):=by
 unfold fluxionref01_Gcd.f
 simp only[Option.bind_some,List.nil_append,List.length_nil]
 by_cases h0:x.length=0
 ·have e:x= [] :=List.length_eq_zero_iff.1 h0
  subst e
  refine Ev.yes rfl (Ev.yes (by omega) (Ev.is ?_))
  show y=digN (Nat.gcd 0 (valN y));rw[Nat.gcd_zero_left,digN_val hy]
 ·by_cases h1:y.length=0
  ·have e:y= [] :=List.length_eq_zero_iff.1 h1
   subst e
   refine Ev.no (by omega) (Ev.yes rfl (Ev.yes (by omega) (Ev.is ?_)))
   show x=digN (Nat.gcd (valN x) 0);rw[Nat.gcd_zero_right,digN_val hx]
  ·refine Ev.no (by omega) (Ev.no (by omega) ?_)
   have px:=val_pos hx (by intro e;rw[e]at h0;simp at h0)
   have py:=val_pos hy (by intro e;rw[e]at h1;simp at h1)
   have bx:=val_lt hx.1
   have by':=val_lt hy.1
   have h2:valN x+valN y< 4294967296 ^ (x.length+y.length+1):=by
    have e1:4294967296 ^ x.length≤4294967296 ^ (x.length+y.length):=Nat.pow_le_pow_right (by decide) (by omega)
    have e2:4294967296 ^ y.length≤4294967296 ^ (x.length+y.length):=Nat.pow_le_pow_right (by decide) (by omega)
    rw[powB];omega
   have:=refGcd_l0 (L:=x.length+y.length+1) (by omega) (Nat.gcd (valN x) (valN y)) (valN x+valN y) (valN x) (valN y) 0 rfl (by rw[Nat.pow_zero,Nat.mul_one];exact h2) px py (by omega) (by rw[Nat.pow_zero,Nat.mul_one])
   rw[digN_val hx,digN_val hy]at this;exact this
theorem refAdd_l0{x y:List Int}(hx:u32s x)(hy:u32s y)(m:Nat)(hm:m< 4294967000)(hxm:x.length≤m)(hym:y.length≤m): ∀d i (o:List Int) (c:Nat),i+d=m+1→o.length=m+1→u32s o→c≤1→valN (o.take i) +c * 4294967296 ^ i=valN (x.take i) +valN (y.take i)→
  Ev (fun k=>fluxionref01_Add.l0 k x y o c i) (digN (valN x+valN y)):=by
 intro d
 induction d with
 |zero=>
  intro i o c hi ho hu hc hv
  refine Ev.step (fun k=>by rw[fluxionref01_Add.l0]) ?_
  refine Ev.no (by omega) ?_
  rw[val_take_len (by omega),val_take_len (by omega),val_take_len (by omega)]at hv
  have hb1:=val_lt hx
  have hb2:=val_lt hy
  have e1:4294967296 ^ x.length≤4294967296 ^ m:=Nat.pow_le_pow_right (by decide) hxm
  have e2:4294967296 ^ y.length≤4294967296 ^ m:=Nat.pow_le_pow_right (by decide) hym
  have e3:4294967296 ^ i=4294967296 ^ m * 4294967296:=by rw[show i=m+1 by omega,powB]
  rw[e3]at hv
  have hc0:c=0:=by
   rcases Nat.eq_zero_or_pos c with h|h
   ·exact h
   ·have:c=1:=by omega
    subst this;generalize 4294967296 ^ m=B at *;omega
  subst hc0
  have:valN x+valN y=valN o:=by omega
  rw[this]
  exact Ev.bind (short_f hu (by omega)) (Ev.now _)
 |succ d ih=>
  intro i o c hi ho hu hc hv
  have h1:=dgt_lt hx i
  have h2:=dgt_lt hy i
  refine Ev.step (fun k=>by rw[fluxionref01_Add.l0]) ?_
  refine Ev.yes (by omega) (Ev.bind (Ev.con (refDigit_f hx i)) (Ev.bind (Ev.con (refDigit_f hy i)) (Ev.yes (by omega) ?_)))
  have e0:IntKind.u64.wrap (IntKind.u64.wrap (((dgt x i:Nat):Int) + ((dgt y i:Nat):Int)) + (c:Int))=((dgt x i+dgt y i+c:Nat):Int):=by
   rw[u64w (((dgt x i:Nat):Int) + ((dgt y i:Nat):Int)) (by omega),u64w _ (by omega)];omega
  have e1:((dgt x i+dgt y i+c:Nat):Int) % 4294967296=(((dgt x i+dgt y i+c) % 4294967296:Nat):Int):=by omega
  have e2:((dgt x i+dgt y i+c:Nat):Int) / 4294967296=(((dgt x i+dgt y i+c) / 4294967296:Nat):Int):=by omega
  rw[e0,e1,e2,wnx i (by omega),Int.toNat_natCast]
  clear e0 e1 e2
  refine ih (i+1) _ _ (by omega) (by rw[List.length_set];exact ho) (u32s_set hu i (by omega)) (by omega) ?_
  rw[val_take_set (by omega),val_take_succ,val_take_succ,Int.toNat_natCast,powB]
  have hdm:=Nat.div_add_mod (dgt x i+dgt y i+c) 4294967296
  generalize (dgt x i+dgt y i+c) % 4294967296=r at *
  generalize (dgt x i+dgt y i+c) / 4294967296=q at *
  generalize 4294967296 ^ i=B at *
  have k2:B * (4294967296 * q+r)=B * (dgt x i+dgt y i+c):=by rw[hdm]
  rw[Nat.mul_add,Nat.mul_add,Nat.mul_add]at k2
  have k3:q * (B * 4294967296)=B * (4294967296 * q):=by rw[Nat.mul_comm q,Nat.mul_assoc]
  rw[k3]
  rw[Nat.mul_comm c B]at hv
  generalize B * (4294967296 * q)=z1 at *
  omega
theorem refAdd_f{x y:List Int}(hx:u32s x)(hy:u32s y)(hxs:x.length< 4294967000)(hys:y.length< 4294967000):Ev (fun k=>fluxionref01_Add.f k x y) (digN (valN x+valN y)):=by
 have em:mx (x.length:Int) (y.length:Int)=((max x.length y.length:Nat):Int):=by unfold mx;split<;>omega
 unfold fluxionref01_Add.f
 rw[em,wnx _ (by omega)]
 refine Ev.yes (by omega) (Ev.yes (by omega) ?_)
 rw[Int.toNat_natCast]
 exact refAdd_l0 hx hy (max x.length y.length) (by omega) (by omega) (by omega) (max x.length y.length+1) 0 _ 0 (by omega) List.length_replicate (u32s_zeros _) (by omega) (by simp[valN])
theorem refMul_l1{x y:List Int}(hx:u32s x)(hy:u32s y)(hs:x.length+y.length< 4294967000){i:Nat}(hi:i< x.length)(R:List Int)(o0:List Int)
  (next: ∀o,o.length=x.length+y.length→u32s o→valN o=valN o0+4294967296 ^ i * (dgt x i * valN y)→(∀j,i+1+y.length≤j→dgt o j=0)→Ev (fun k=>fluxionref01_Mul.l0 k x y o (wrap64 ((i:Int) +1))) R):
  ∀d k (o:List Int) (c:Nat),k+d=y.length→o.length=x.length+y.length→u32s o→c< 4294967296→(∀j,i+y.length≤j→dgt o j=0)→valN o+c * 4294967296 ^ (i+k)=valN o0+4294967296 ^ i * (dgt x i * valN (y.take k))→
  Ev (fun K=>fluxionref01_Mul.l1 K x y o i c k) R:=by
 have step: ∀k (o:List Int) (c:Nat),u32s o→c< 4294967296→i+k< x.length+y.length→ ∃r q,r< 4294967296∧q< 4294967296∧4294967296 * q+r=c+ (dgt x i * dgt y k+dgt o (i+k))∧IntKind.u64.wrap (IntKind.u64.wrap (IntKind.u64.wrap ((dgt o (i+k):Nat):Int) +IntKind.u64.wrap (IntKind.u64.wrap ((dgt x i:Nat):Int) * ((dgt y k:Nat):Int))) + (c:Int)) % 4294967296=(r:Int)∧IntKind.u64.wrap (IntKind.u64.wrap (IntKind.u64.wrap ((dgt o (i+k):Nat):Int) +IntKind.u64.wrap (IntKind.u64.wrap ((dgt x i:Nat):Int) * ((dgt y k:Nat):Int))) + (c:Int)) / 4294967296=(q:Int):=by
  intro k o c hu hc hik
  have h1:=dgt_lt hx i
  have h2:=dgt_lt hy k
  have h3:=dgt_lt hu (i+k)
  have hp:dgt x i * dgt y k≤4294967295 * 4294967295:=Nat.mul_le_mul (by omega) (by omega)
  have eP:((dgt x i:Nat):Int) * ((dgt y k:Nat):Int)=((dgt x i * dgt y k:Nat):Int):=by simp
  generalize dgt x i * dgt y k=p at *
  have e2:IntKind.u64.wrap (IntKind.u64.wrap (IntKind.u64.wrap ((dgt o (i+k):Nat):Int) +IntKind.u64.wrap (IntKind.u64.wrap ((dgt x i:Nat):Int) * ((dgt y k:Nat):Int))) + (c:Int))=((c+ (p+dgt o (i+k)):Nat):Int):=by
   rw[u64w ((dgt o (i+k):Nat):Int) (by omega),u64w ((dgt x i:Nat):Int) (by omega),eP,u64w (p:Int) (by omega),u64w (((dgt o (i+k):Nat):Int) + (p:Int)) (by omega),u64w _ (by omega)];omega
  rw[e2]
  clear e2 eP
  refine⟨(c+ (p+dgt o (i+k))) % 4294967296,(c+ (p+dgt o (i+k))) / 4294967296,by omega,by omega,by omega,by omega,by omega⟩
 intro d
 induction d with
 |zero=>
  intro k o c hk ho hu hc hz hv
  have HV:=Aside0.mk hv
  clear hv
  have e:k=y.length:=by omega
  subst e
  have fin: ∀ (o:List Int) (k:Nat),y.length≤k→o.length=x.length+y.length→u32s o→valN o=valN o0+4294967296 ^ i * (dgt x i * valN y)→(∀j,i+1+y.length≤j→dgt o j=0)→Ev (fun K=>fluxionref01_Mul.l1 K x y o i 0 k) R:=by
   intro o k hk ho hu hv hz
   refine Ev.step (fun k=>by rw[fluxionref01_Mul.l1]) ?_
   exact Ev.no (by omega) (Ev.no (by omega) (next o ho hu hv hz))
  rcases Nat.eq_zero_or_pos c with h0|h0
  ·subst h0
   refine fin o y.length (Nat.le_refl _) ho hu ?_ (fun j hj=>hz j (by omega))
   have hv:=HV.out
   rw[List.take_length,Nat.zero_mul,Nat.add_zero]at hv;exact hv
  ·have hik:i+y.length< x.length+y.length:=by omega
   have e3:wrap64 ((i:Int) + (y.length:Int))=((i+y.length:Nat):Int):=by unfold wrap64;omega
   have b2:i+y.length< o.length:=by rw[ho];exact hik
   have b3:y.length< 4611686018427387904:=by omega
   have c1: ¬ ((y.length:Int)< (y.length:Int)):=by omega
   have c2: ∀c:Nat,0< c→(c:Int) >0:=by omega
   obtain⟨r,q,hr,hq,hrq,e1,e2⟩:=step y.length o c hu hc hik
   have hd0:dgt y y.length=0:=dgt_high (Nat.le_refl _)
   have hd1:=hz (i+y.length) (Nat.le_refl _)
   rw[hd0,hd1,Nat.mul_zero]at hrq
   have hrq2:r=c∧q=0:=by clear e1 e2 e3;omega
   obtain⟨hr',hq'⟩:=hrq2
   subst hr' hq'
   refine Ev.step (fun k=>by rw[fluxionref01_Mul.l1]) ?_
   rw[e3,rd_dgt hu,rd_dgt hx]
   refine Ev.no c1 (Ev.yes (c2 _ h0) (Ev.yes (Int.natCast_nonneg _) (Ev.yes (Int.ofNat_lt.2 b2) (Ev.yes (Int.natCast_nonneg _) (Ev.yes (Int.ofNat_lt.2 hi) (Ev.bind (Ev.con (refDigit_f hy y.length)) ?_))))))
   rw[e1,e2,wnx y.length b3,Int.toNat_natCast]
   clear e1 e2 e3
   refine fin _ _ (by omega) (by rw[List.length_set];exact ho) (u32s_set hu _ (natU hr)) ?_ (fun j hj=>by rw[dgt_set b2,if_neg (by omega)];exact hz j (by omega))
   have v1:=val_set (x:=o) (i:=i+y.length) b2 (r:Int)
   rw[hd1,Int.toNat_natCast,Nat.mul_zero,Nat.add_zero]at v1
   have hv:=HV.out
   rw[List.take_length]at hv
   rw[v1,Nat.mul_comm];exact hv
 |succ d ih=>
  intro k o c hk ho hu hc hz hv
  have HV:=Aside0.mk hv
  clear hv
  have hkl:k< y.length:=by omega
  have hik:i+k< x.length+y.length:=by omega
  have e3:wrap64 ((i:Int) + (k:Int))=((i+k:Nat):Int):=by unfold wrap64;omega
  have b2:i+k< o.length:=by rw[ho];exact hik
  have b3:k< 4611686018427387904:=by omega
  obtain⟨r,q,hr,hq,hrq,e1,e2⟩:=step k o c hu hc hik
  refine Ev.step (fun k=>by rw[fluxionref01_Mul.l1]) ?_
  rw[e3,rd_dgt hu,rd_dgt hx]
  refine Ev.yes (Int.ofNat_lt.2 hkl) (Ev.yes (Int.natCast_nonneg _) (Ev.yes (Int.ofNat_lt.2 b2) (Ev.yes (Int.natCast_nonneg _) (Ev.yes (Int.ofNat_lt.2 hi) (Ev.bind (Ev.con (refDigit_f hy k)) ?_)))))
  rw[e1,e2,wnx k b3,Int.toNat_natCast]
  clear e1 e2 e3
  refine ih (k+1) _ _ (by omega) (by rw[List.length_set];exact ho) (u32s_set hu _ (natU hr)) hq (fun j hj=>by rw[dgt_set b2,if_neg (by omega)];exact hz j hj) ?_
  have hv:=HV.out
  have v1:=val_set (x:=o) (i:=i+k) b2 (r:Int)
  rw[Int.toNat_natCast]at v1
  rw[val_take_succ,Nat.mul_add,Nat.mul_add]
  have k1:4294967296 ^ i * (dgt x i * (4294967296 ^ k * dgt y k))=4294967296 ^ (i+k) * (dgt x i * dgt y k):=by rw[Nat.pow_add,Nat.mul_left_comm (dgt x i),Nat.mul_assoc]
  rw[k1,←Nat.add_assoc i k 1,powB]
  generalize 4294967296 ^ i * (dgt x i * valN (y.take k))=z0 at *
  generalize 4294967296 ^ (i+k)=B at *
  generalize dgt x i * dgt y k=p at *
  have k2:B * (4294967296 * q+r)=B * (c+ (p+dgt o (i+k))):=by rw[hrq]
  rw[Nat.mul_add,Nat.mul_add,Nat.mul_add]at k2
  have k3:q * (B * 4294967296)=B * (4294967296 * q):=by rw[Nat.mul_comm q,Nat.mul_assoc]
  rw[k3]
  rw[Nat.mul_comm c B]at hv
  generalize B * (4294967296 * q)=z1 at *
  omega
theorem refMul_l0{x y:List Int}(hx:u32s x)(hy:u32s y)(hs:x.length+y.length< 4294967000): ∀d i (o:List Int),i+d=x.length→o.length=x.length+y.length→u32s o→(∀j,i+y.length≤j→dgt o j=0)→valN o=valN (x.take i) * valN y→
  Ev (fun k=>fluxionref01_Mul.l0 k x y o i) (digN (valN x * valN y)):=by
 intro d
 induction d with
 |zero=>
  intro i o hi ho hu hz hv
  refine Ev.step (fun k=>by rw[fluxionref01_Mul.l0]) ?_
  refine Ev.no (by omega) ?_
  rw[val_take_len (by omega)]at hv
  rw[←hv]
  exact Ev.bind (short_f hu (by omega)) (Ev.now _)
 |succ d ih=>
  intro i o hi ho hu hz hv
  refine Ev.step (fun k=>by rw[fluxionref01_Mul.l0]) ?_
  refine Ev.yes (by omega) ?_
  refine refMul_l1 hx hy hs (by omega) _ o (fun o' ho' hu' hv' hz'=>?_) y.length 0 o 0 (by omega) ho hu (by omega) hz (by simp[valN])
  rw[wnx i (by omega)]
  exact ih (i+1) o' (by omega) ho' hu' hz' (by rw[hv',hv,val_take_succ,Nat.add_mul,Nat.mul_assoc])
theorem refMul_f{x y:List Int}(hx:u32s x)(hy:u32s y)(hs:x.length+y.length< 4294967000):Ev (fun k=>fluxionref01_Mul.f k x y) (digN (valN x * valN y)):=by
 unfold fluxionref01_Mul.f
 have e:wrap64 ((x.length:Int) + (y.length:Int))=((x.length+y.length:Nat):Int):=by unfold wrap64;omega
 rw[e,Int.toNat_natCast]
 refine Ev.yes (by omega) (Ev.yes (by omega) ?_)
 refine refMul_l0 hx hy hs x.length 0 _ (by omega) List.length_replicate (u32s_zeros _) (fun j hj=>?_) (by rw[val_zeros];simp[valN])
 unfold dgt;simp[List.getD_eq_getElem?_getD,List.getElem?_replicate];split<;>simp
def exactR(neg:Bool)(n d:Nat):Int×Bool×List Int×List Int:=if n=0 then(0,false,[],[1])else(0,neg,digN (n / Nat.gcd n d),digN (d / Nat.gcd n d))
theorem len_small{x:List Int}{c:Nat}(hx:canon x)(h:x.length≤c){m:Nat}(hm:m≤valN x):(digN m).length≤c:=by
 refine Nat.le_trans (len_digN_le (k:=x.length) (Nat.lt_of_le_of_lt hm (val_lt hx.1))) h
theorem refExact_j0t{neg:Bool}{x y:List Int}{g:Nat}(hx:canon x)(hy:canon y)(hg:0< g)(hs:x.length< 400000)(hys:y.length< 400000)(hgl:(digN g).length< 400000):Ev (fun k=>fluxionref02_Exact.j0 k neg x y (digN g) true) (0,neg,digN (valN x / g),digN (valN y / g)):=by
 have hg0:digN g≠ [] :=fun e=>by rw[digN_nil]at e;omega
 have l1:=len_small hx (c:=400000) (by omega) (Nat.div_le_self (valN x) g)
 have l2:=len_small hy (c:=400000) (by omega) (Nat.div_le_self (valN y) g)
 refine Ev.step (fun k=>by rw[fluxionref02_Exact.j0]) ?_
 refine Ev.yes rfl (Ev.bind (refDiv_f hx (canon_digN g) hg0 (by omega) (by omega)) (Ev.bind (refDiv_f hy (canon_digN g) hg0 (by omega) (by omega)) ?_))
 rw[val_digN]
 simp only[Option.bind_some,List.nil_append,List.length_nil]
 exact Ev.yes (by omega) (Ev.yes (by omega) (Ev.now _))
theorem refExact_j0f{neg:Bool}{x y g:List Int}(hs:x.length< 400000)(hys:y.length< 400000):Ev (fun k=>fluxionref02_Exact.j0 k neg x y g false) (0,neg,x,y):=by
 refine Ev.step (fun k=>by rw[fluxionref02_Exact.j0]) ?_
 refine Ev.no (by decide) ?_
 simp only[Option.bind_some,List.nil_append,List.length_nil]
 exact Ev.yes (by omega) (Ev.yes (by omega) (Ev.now _))
theorem refExact_f{neg:Bool}{x y:List Int}(hx:canon x)(hy:canon y)(hs:x.length< 400000)(hys:y.length< 400000):Ev (fun k=>fluxionref02_Exact.f k neg x y) (exactR neg (valN x) (valN y)):=by
 unfold fluxionref02_Exact.f exactR
 by_cases h0:x.length=0
 ·have e:x= [] :=List.length_eq_zero_iff.1 h0
  subst e
  refine Ev.yes rfl ?_
  rw[if_pos (show valN [] =0 from rfl)]
  exact Ev.now _
 ·have px:=val_pos hx (by intro e;rw[e]at h0;simp at h0)
  rw[if_neg (by omega)]
  refine Ev.no (by omega) (Ev.bind (refGcd_f hx hy hs hys) ?_)
  have hg0:0< Nat.gcd (valN x) (valN y):=Nat.gcd_pos_of_pos_left _ px
  have hgl:=len_small hx (c:=399999) (by omega) (Nat.le_of_dvd px (Nat.gcd_dvd_left (valN x) (valN y)))
  generalize Nat.gcd (valN x) (valN y)=g at *
  have hgn:=ne_nil_of_val (x:=digN g) (by rw[val_digN];exact hg0)
  by_cases h1:(digN g).length >1
  ·exact Ev.yes (by omega) (refExact_j0t hx hy hg0 hs hys (by omega))
  ·refine Ev.no (by omega) (Ev.yes (by omega) ?_)
   have hlt:g< 4294967296:=by
    have:=val_lt (u32s_digN g)
    rw[val_digN,show(digN g).length=1 by omega,Nat.pow_one]at this;exact this
   have hr:rd (digN g) 0=(g:Int):=by
    have e1:rd (digN g) 0=((dgt (digN g) 0:Nat):Int):=rd_dgt (u32s_digN g) 0
    have e2:=dgt_val (u32s_digN g) 0
    rw[val_digN,Nat.pow_zero,Nat.div_one,Nat.mod_eq_of_lt hlt]at e2
    rw[e1,e2]
   rw[hr]
   by_cases h2:(g:Int) >1
   ·rw[decide_eq_true h2];exact refExact_j0t hx hy hg0 hs hys (by omega)
   ·have hg1:g=1:=by omega
    rw[decide_eq_false h2,hg1,Nat.div_one,Nat.div_one,digN_val hx,digN_val hy]
    exact refExact_j0f hs hys
def boundR(r:Int×Bool×List Int×List Int):Int×Bool×List Int×List Int:=if 4096< nb (valN r.2.2.1)∨4096< nb (valN r.2.2.2)then(4,false,[],[])else r
theorem refBound_f{f:Int}{neg:Bool}{x y:List Int}(hx:canon x)(hy:canon y)(hs:x.length< 400000)(hys:y.length< 400000):Ev (fun k=>fluxionref02_Bound.f k f neg x y) (boundR (f,neg,x,y)):=by
 unfold fluxionref02_Bound.f boundR
 refine Ev.bind (refLong_f hx (by omega)) ?_
 by_cases h1:4096< nb (valN x)
 ·exact Ev.yes (decide_eq_true h1) (Ev.is (if_pos (Or.inl h1)).symm)
 ·refine Ev.no (fun h=>h1 (of_decide_eq_true h)) (Ev.bind (refLong_f hy (by omega)) ?_)
  by_cases h2:4096< nb (valN y)
  ·exact Ev.yes (decide_eq_true h2) (Ev.is (if_pos (Or.inr h2)).symm)
  ·exact Ev.no (fun h=>h2 (of_decide_eq_true h)) (Ev.is (if_neg (fun h=>h.elim h1 h2)).symm)
def formV(x:List Int):Int:=if 512< x.length then 3 else if x≠ [] ∧x.getLast?.getD 1=0 then 5 else 0
def formL:List (List Int)→Int
 | [] =>0
 |x::l=>if formV x=0 then formL l else formV x
theorem natForm_l0(xs:List (List Int))(hs:xs.length< 4294967296)(hxs: ∀x∈xs,x.length< 4294967296): ∀d i,i+d=xs.length→Ev (fun k=>nat_form.l0 k xs xs.length i) (formL (xs.drop i)):=by
 intro d
 induction d with
 |zero=>
  intro i hi
  refine Ev.step (fun k=>by rw[nat_form.l0]) ?_
  refine Ev.no (by omega) (Ev.is ?_)
  rw[List.drop_eq_nil_of_le (by omega)];rfl
 |succ d ih=>
  intro i hi
  have hl:i< xs.length:=by omega
  have er:rd_L4 xs (i:Int)=xs[i] :=by show xs.getD i [] =_;simp[List.getD_eq_getElem?_getD,hl]
  have hx:=hxs xs[i] (List.getElem_mem hl)
  have ihn:=ih (i+1) (by omega)
  refine Ev.step (fun k=>by rw[nat_form.l0]) ?_
  rw[er,wnx i (by omega),List.drop_eq_getElem_cons hl,formL]
  generalize xs[i] =x at *
  refine Ev.yes (by omega) (Ev.yes (by omega) (Ev.yes (by omega) ?_))
  by_cases h1:512< x.length
  ·have e:formV x=3:=if_pos h1
   rw[e]
   exact Ev.yes (by omega) (Ev.now _)
  ·refine Ev.no (by omega) ?_
   by_cases h0:x.length=0
   ·have hn:x= [] :=List.length_eq_zero_iff.1 h0
    have e:formV x=0:=by unfold formV;rw[if_neg h1,if_neg (fun h=>h.1 hn)]
    rw[e,if_pos rfl]
    exact Ev.no (by omega) ihn
   ·have hn:x≠ [] :=fun e=>h0 (by rw[e];rfl)
    rw[wpx x.length (by omega) (by omega)]
    have e2:rd x ((x.length - 1:Nat):Int)=x.getLast?.getD 1:=by
     show x.getD (x.length - 1) 0=_
     rw[List.getLast?_eq_getElem?,List.getD_eq_getElem?_getD,List.getElem?_eq_getElem (by omega)];rfl
    rw[e2]
    refine Ev.yes (by omega) (Ev.yes (by omega) (Ev.yes (by omega) ?_))
    by_cases h2:x.getLast?.getD 1=0
    ·have e:formV x=5:=by unfold formV;rw[if_neg h1,if_pos ⟨hn,h2⟩]
     rw[e]
     exact Ev.yes h2 (Ev.now _)
    ·have e:formV x=0:=by unfold formV;rw[if_neg h1,if_neg (fun h=>h2 h.2)]
     rw[e,if_pos rfl]
     exact Ev.no h2 ihn
theorem natForm_f(xs:List (List Int))(hs:xs.length< 4294967296)(hxs: ∀x∈xs,x.length< 4294967296):Ev (fun k=>nat_form.f k xs) (formL xs):=by
 have:=natForm_l0 xs hs hxs xs.length 0 (by omega)
 rw[List.drop_zero]at this;exact this
theorem formV_canon{x:List Int}(hx:canon x)(h:x.length≤512):formV x=0:=by
 unfold formV;rw[if_neg (by omega),if_neg]
 intro hc
 have:=hx.2 hc.1
 rw[List.getLast?_eq_some_getLast hc.1]at hc
 exact this hc.2
theorem canon_formV{x:List Int}(hu:u32s x)(h:formV x=0):canon x∧x.length≤512:=by
 unfold formV at h
 by_cases h1:512< x.length
 ·rw[if_pos h1]at h;omega
 ·rw[if_neg h1]at h
  refine⟨⟨hu,fun hn h0=>?_⟩,by omega⟩
  rw[if_pos ⟨hn,by rw[List.getLast?_eq_some_getLast hn];exact h0⟩]at h;omega
theorem two_digits(n:Nat)(h:n< 18446744073709551616):u32s [((n:Int)) % 4294967296,((n:Int) / 4294967296) % 4294967296] ∧valN [((n:Int)) % 4294967296,((n:Int) / 4294967296) % 4294967296] =n:=by
 refine⟨by rw[u32s_cons,u32s_cons];exact⟨by omega,by omega,u32s_nil⟩,?_⟩
 simp only[valN];omega
theorem natOf_f(n:Nat)(h:n< 18446744073709551616):Ev (fun k=>nat_Of.f k n) (digN n):=by
 unfold nat_Of.f
 obtain⟨h1,h2⟩:=two_digits n h
 have:=trim_f h1 (by simp)
 rw[h2]at this
 exact Ev.bind this (Ev.now _)
theorem refOf01_f(n:Nat)(h:n< 18446744073709551616):Ev (fun k=>fluxionref01_Of.f k n) (digN n):=by
 unfold fluxionref01_Of.f
 obtain⟨h1,h2⟩:=two_digits n h
 have:=short_f h1 (by simp)
 rw[h2]at this
 exact Ev.bind this (Ev.now _)
theorem refRatio_f{neg:Bool}{x y:List Int}(hx:canon x)(hy:canon y)(hs:x.length< 400000)(hys:y.length< 400000):Ev (fun k=>fluxionref02_Ratio.f k neg x y) (if y.length=0 then(11,false,[],[])else boundR (exactR neg (valN x) (valN y))):=by
 unfold fluxionref02_Ratio.f
 by_cases h0:y.length=0
 ·exact Ev.yes (by omega) (Ev.is (if_pos h0).symm)
 ·refine Ev.no (by omega) (Ev.bind (refExact_f hx hy hs hys) ?_)
  have hc:canon (exactR neg (valN x) (valN y)).2.2.1∧canon (exactR neg (valN x) (valN y)).2.2.2∧(exactR neg (valN x) (valN y)).2.2.1.length< 400000∧(exactR neg (valN x) (valN y)).2.2.2.length< 400000:=by
   unfold exactR;split
   ·refine⟨canon_nil,⟨by rw[u32s_cons];exact⟨by omega,u32s_nil⟩,fun h=>by simp⟩,by simp,by simp⟩
   ·have l1:=len_small hx (c:=x.length) (Nat.le_refl _) (Nat.div_le_self (valN x) (Nat.gcd (valN x) (valN y)))
    have l2:=len_small hy (c:=y.length) (Nat.le_refl _) (Nat.div_le_self (valN y) (Nat.gcd (valN x) (valN y)))
    exact⟨canon_digN _,canon_digN _,by show(digN _).length< _;omega,by show(digN _).length< _;omega⟩
  refine Ev.bind (refBound_f hc.1 hc.2.1 hc.2.2.1 hc.2.2.2) (Ev.is ?_)
  rw[if_neg h0]
def signedR(p:Bool)(a:Nat)(q:Bool)(b:Nat):Bool×Nat:=if p=q then(p,a+b)else if b≤a then(p,a - b)else(q,b - a)
theorem refSigned_f{p q:Bool}{x y:List Int}(hx:canon x)(hy:canon y)(hs:x.length< 400000)(hys:y.length< 400000):Ev (fun k=>fluxionref02_signed.f k p x q y) ((signedR p (valN x) q (valN y)).1,digN (signedR p (valN x) q (valN y)).2):=by
 unfold fluxionref02_signed.f signedR
 by_cases h:p=q
 ·rw[if_pos h]
  exact Ev.yes (by rw[h];simp) (Ev.bind (refAdd_f hx.1 hy.1 (by omega) (by omega)) (Ev.now _))
 ·rw[if_neg h]
  refine Ev.no (fun e=>h (by simpa using e)) (Ev.bind (refCompare_f hx hy (by omega)) ?_)
  by_cases h2:valN y≤valN x
  ·rw[if_pos h2]
   exact Ev.yes ((cmpI_ge _ _).2 h2) (Ev.bind (refSub_f hx.1 hy h2 (by omega)) (Ev.now _))
  ·rw[if_neg h2]
   exact Ev.no (fun e=>h2 ((cmpI_ge _ _).1 e)) (Ev.bind (refSub_f hy.1 hx (by omega) (by omega)) (Ev.now _))
def ratioR(neg:Bool)(n d:Nat):Int×Bool×List Int×List Int:=if d=0 then(11,false,[],[])else boundR (exactR neg n d)
def leastR(a b:Int):Int:=if a=0 then b else if b=0 then a else if b< a then b else a
theorem refLeast2_f(a b:Int):fluxionref02_Least.f a b=some (leastR a b):=by
 unfold fluxionref02_Least.f leastR
 by_cases h:a=0
 ·rw[if_pos h,if_pos h]
 ·rw[if_neg h,if_neg h]
  by_cases h2:b=0
  ·rw[if_pos h2,if_pos h2]
  ·rw[if_neg h2,if_neg h2]
   by_cases h3:b< a
   ·rw[if_pos h3,if_pos h3]
   ·rw[if_neg h3,if_neg h3]
theorem refRatioN_f{neg:Bool}{n d L:Nat}(hn:n< 4294967296 ^ L)(hd:d< 4294967296 ^ L)(hL:L< 400000):Ev (fun k=>fluxionref02_Ratio.f k neg (digN n) (digN d)) (ratioR neg n d):=by
 have l1:=len_digN_le hn
 have l2:=len_digN_le hd
 have:=refRatio_f (neg:=neg) (canon_digN n) (canon_digN d) (by omega) (by omega)
 rw[val_digN,val_digN]at this
 unfold ratioR
 by_cases h:d=0
 ·rw[if_pos h];rw[if_pos (by rw[h,digN_zero];rfl)]at this;exact this
 ·rw[if_neg h]
  have hl:(digN d).length≠0:=fun e=>h (digN_nil.1 (List.length_eq_zero_iff.1 e))
  rw[if_neg hl]at this;exact this
theorem mul_pow_lt{a b i j:Nat}(ha:a< 4294967296 ^ i)(hb:b< 4294967296 ^ j):a * b< 4294967296 ^ (i+j):=by
 rw[Nat.pow_add];exact Nat.mul_lt_mul'' ha hb
theorem signedR_le(p:Bool)(a:Nat)(q:Bool)(b:Nat):(signedR p a q b).2≤a+b:=by unfold signedR;split<;>(try split)<;>simp only[] <;>omega
theorem refAddR_f{f1 f2:Int}{p q:Bool}{x a y b:List Int}(hx:u32s x)(ha:u32s a)(hy:u32s y)(hb:u32s b)(lx:x.length≤1000)(la:a.length≤1000)(ly:y.length≤1000)(lb:b.length≤1000):
  Ev (fun k=>fluxionref02_Add.f k f1 p x a f2 q y b) (if leastR f1 f2=0 then ratioR (signedR p (valN x * valN b) q (valN y * valN a)).1 (signedR p (valN x * valN b) q (valN y * valN a)).2 (valN a * valN b)else(leastR f1 f2,false,[],[])):=by
 have hv: ∀ {z:List Int},u32s z→z.length≤1000→ ∀L,L=1000→valN z< 4294967296 ^ L:=fun hz hl L hL=>Nat.lt_of_lt_of_le (val_lt hz) (Nat.pow_le_pow_right (by decide) (by omega))
 obtain⟨L,hL⟩: ∃L:Nat,L=1000:=⟨1000,rfl⟩
 have h1:=mul_pow_lt (hv hx lx L hL) (hv hb lb L hL)
 have h2:=mul_pow_lt (hv hy ly L hL) (hv ha la L hL)
 have h3:=mul_pow_lt (hv ha la L hL) (hv hb lb L hL)
 have l1:=len_digN_le h1
 have l2:=len_digN_le h2
 unfold fluxionref02_Add.f
 refine Ev.bind (Ev.con (refLeast2_f f1 f2)) ?_
 by_cases h0:leastR f1 f2=0
 ·rw[if_pos h0]
  refine Ev.yes h0 (Ev.bind (refMul_f hx hb (by omega)) (Ev.bind (refMul_f hy ha (by omega)) (Ev.bind (refSigned_f (canon_digN _) (canon_digN _) (by omega) (by omega)) (Ev.bind (refMul_f ha hb (by omega)) ?_))))
  rw[val_digN,val_digN]
  have h4:=signedR_le p (valN x * valN b) q (valN y * valN a)
  refine Ev.bind (refRatioN_f (L:=L+L+1) ?_ ?_ (by omega)) (Ev.now _)
  ·rw[powB];omega
  ·rw[powB];omega
 ·rw[if_neg h0]
  exact Ev.no h0 (Ev.now _)
theorem refMulR_f{f1 f2:Int}{p q:Bool}{x a y b:List Int}(hx:u32s x)(ha:u32s a)(hy:u32s y)(hb:u32s b)(lx:x.length≤1000)(la:a.length≤1000)(ly:y.length≤1000)(lb:b.length≤1000):
  Ev (fun k=>fluxionref02_Mul.f k f1 p x a f2 q y b) (if leastR f1 f2=0 then ratioR (p !=q) (valN x * valN y) (valN a * valN b)else(leastR f1 f2,false,[],[])):=by
 have hv: ∀ {z:List Int},u32s z→z.length≤1000→ ∀L,L=1000→valN z< 4294967296 ^ L:=fun hz hl L hL=>Nat.lt_of_lt_of_le (val_lt hz) (Nat.pow_le_pow_right (by decide) (by omega))
 obtain⟨L,hL⟩: ∃L:Nat,L=1000:=⟨1000,rfl⟩
 have h1:=mul_pow_lt (hv hx lx L hL) (hv hy ly L hL)
 have h3:=mul_pow_lt (hv ha la L hL) (hv hb lb L hL)
 unfold fluxionref02_Mul.f
 refine Ev.bind (Ev.con (refLeast2_f f1 f2)) ?_
 by_cases h0:leastR f1 f2=0
 ·rw[if_pos h0]
  refine Ev.yes h0 (Ev.bind (refMul_f hx hy (by omega)) (Ev.bind (refMul_f ha hb (by omega)) ?_))
  exact Ev.bind (refRatioN_f h1 h3 (by omega)) (Ev.now _)
 ·rw[if_neg h0]
  exact Ev.no h0 (Ev.now _)
def goodB(x:List Int):Bool:=decide (x.length≤128) && (x.isEmpty||decide (x.getLast?.getD 1≠0))
theorem refGood_f{x:List Int}(hs:x.length< 4294967296):fluxionref02_good.f x=some (goodB x):=by
 unfold fluxionref02_good.f goodB
 by_cases h1:x.length≤128
 ·rw[if_pos (by omega),decide_eq_true h1,Bool.true_and]
  by_cases h0:x.length=0
  ·have e:x= [] :=List.length_eq_zero_iff.1 h0
   subst e;rfl
  ·have hn:x≠ [] :=fun e=>h0 (by rw[e];rfl)
   have e2:rd x ((x.length - 1:Nat):Int)=x.getLast?.getD 1:=by
    show x.getD (x.length - 1) 0=_
    rw[List.getLast?_eq_getElem?,List.getD_eq_getElem?_getD,List.getElem?_eq_getElem (by omega)];rfl
   rw[wpx x.length (by omega) (by omega),e2,if_neg (by omega),if_pos (by omega),if_pos (by omega)]
   have:x.isEmpty=false:=by cases x with
    |nil=>exact absurd rfl hn
    |cons a x=>rfl
   rw[this,Bool.false_or]
   congr 1
   rw[Bool.eq_iff_iff];simp
 ·rw[if_neg (by omega),decide_eq_false h1,Bool.false_and]
theorem good_canon{x:List Int}(hu:u32s x)(h:goodB x=true):canon x∧x.length≤128:=by
 unfold goodB at h
 rw[Bool.and_eq_true,decide_eq_true_iff,Bool.or_eq_true,decide_eq_true_iff]at h
 refine⟨⟨hu,fun hn h0=>?_⟩,h.1⟩
 rcases h.2 with h2|h2
 ·cases x with
  |nil=>exact hn rfl
  |cons a x=>simp at h2
 ·exact h2 (by rw[List.getLast?_eq_some_getLast hn];exact h0)
def isRatB(f:Int)(p:Bool)(x a:List Int):Bool:=
 if f=0 then goodB x && (goodB a && (!a.isEmpty && (!(p && x.isEmpty) && decide (Nat.gcd (valN x) (valN a)=1))))else(decide (f=4) ||decide (f=11)) && (!p && (x.isEmpty && a.isEmpty))
theorem one_digit(g:Nat)(hg:0< g):(if((digN g).length:Int)=1 then(if 0< ((digN g).length:Int)then(some ((rd (digN g) 0)==1))else(none))else(some false))=some (decide (g=1)):=by
 by_cases h1:(digN g).length=1
 ·rw[if_pos (by omega),if_pos (by omega)]
  have hlt:g< 4294967296:=by
   have:=val_lt (u32s_digN g)
   rw[val_digN,h1,Nat.pow_one]at this;exact this
  have e1:rd (digN g) 0=((dgt (digN g) 0:Nat):Int):=rd_dgt (u32s_digN g) 0
  have e2:=dgt_val (u32s_digN g) 0
  rw[val_digN,Nat.pow_zero,Nat.div_one,Nat.mod_eq_of_lt hlt]at e2
  rw[e1,e2];congr 1;rw[Bool.eq_iff_iff,beq_iff_eq,decide_eq_true_iff];omega
 ·rw[if_neg (by omega)];congr 1
  symm;apply decide_eq_false;intro h
  apply h1;rw[h,digN_pos (by decide)];simp[digN_zero]
theorem refIsRat_f{f:Int}{p:Bool}{x a:List Int}(hx:u32s x)(ha:u32s a)(lx:x.length< 4294967296)(la:a.length< 4294967296):Ev (fun k=>fluxionref02_IsRat.f k f p x a) (isRatB f p x a):=by
 unfold fluxionref02_IsRat.f isRatB
 have emp: ∀z:List Int,((z.length:Int)=0)↔z.isEmpty=true:=by intro z;cases z<;>simp;omega
 have emp2: ∀z:List Int,((z.length:Int)==0)=z.isEmpty:=by intro z;cases z<;>simp;omega
 by_cases h0:f=0
 ·rw[if_pos h0]
  refine Ev.yes h0 (Ev.bind (Ev.con (refGood_f lx)) ?_)
  cases g1:goodB x with
  |false=>exact Ev.no (by decide) (Ev.now _)
  |true=>
   refine Ev.yes rfl (Ev.bind (Ev.con (refGood_f la)) ?_)
   cases g2:goodB a with
   |false=>exact Ev.no (by decide) (Ev.now _)
   |true=>
    obtain⟨cx,sx⟩:=good_canon hx g1
    obtain⟨ca,sa⟩:=good_canon ha g2
    refine Ev.yes rfl ?_
    cases e1:a.isEmpty with
    |true=>exact Ev.yes ((emp a).2 e1) (Ev.now _)
    |false=>
     refine Ev.no (fun h=>by rw[(emp a).1 h]at e1;exact absurd e1 (by decide)) ?_
     have hpa:=val_pos ca (fun e=>by rw[e]at e1;simp at e1)
     have hg:=refGcd_f cx ca (by omega) (by omega)
     have one:=one_digit (Nat.gcd (valN x) (valN a)) (Nat.gcd_pos_of_pos_right _ hpa)
     cases p with
     |true=>
      refine Ev.yes rfl ?_
      cases e2:x.isEmpty with
      |true=>exact Ev.yes ((emp x).2 e2) (Ev.now _)
      |false=>exact Ev.no (fun h=>by rw[(emp x).1 h]at e2;exact absurd e2 (by decide)) (Ev.bind hg (Ev.con one))
     |false=>exact Ev.no (by decide) (Ev.bind hg (Ev.con one))
 ·rw[if_neg h0]
  refine Ev.no h0 ?_
  have tail: ∀b:Bool,b=true→Ev (fun _:Nat=>if p=true then some false else(if(x.length:Int)=0 then some ((a.length:Int)==0)else some false)) (b && (!p && (x.isEmpty && a.isEmpty))):=by
   intro b hb
   subst hb
   cases p with
   |true=>exact Ev.yes rfl (Ev.now _)
   |false=>
    refine Ev.no (by decide) ?_
    cases e2:x.isEmpty with
    |true=>exact Ev.yes ((emp x).2 e2) (Ev.is (emp2 a))
    |false=>exact Ev.no (fun h=>by rw[(emp x).1 h]at e2;exact absurd e2 (by decide)) (Ev.now _)
  by_cases h4:f=4
  ·exact Ev.yes h4 (tail _ (by rw[decide_eq_true h4];rfl))
  ·refine Ev.no h4 ?_
   by_cases h11:f=11
   ·exact Ev.yes h11 (tail _ (by rw[decide_eq_true h11,Bool.or_true]))
   ·refine Ev.no h11 (Ev.is ?_)
    rw[decide_eq_false h4,decide_eq_false h11];rfl
theorem natDiv_is{x y:List Int}(hx:canon x)(hy:canon y)(h0:y≠ [])(hs:x.length< 4294960000):nat_div.f x y=some (digN (valN x / valN y),digN (valN x % valN y)):=by
 unfold nat_div.f
 rw[if_pos]
 simp only[Bool.and_eq_true,decide_eq_true_eq,canonB_iff]
 exact⟨⟨⟨hx,hy⟩,fun h=>h0 (List.length_eq_zero_iff.1 h)⟩,hs⟩
theorem digN_len_le{n:Nat}{x:List Int}(hx:u32s x)(h:n≤valN x):(digN n).length≤x.length:=len_digN_le (Nat.lt_of_le_of_lt h (val_lt hx))
theorem natGcd_l0: ∀ (Y X:Nat) (x y:List Int),canon x→canon y→valN x=X→valN y=Y→x.length< 4294960000→y.length< 4294960000→Ev (fun k=>nat_gcd.l0 k x y) (digN (Nat.gcd X Y)):=by
 intro Y
 induction Y using Nat.strongRecOn with
 |_ Y ih=>
  intro X x y hx hy ex ey hs hys
  refine Ev.step (fun k=>by rw[nat_gcd.l0]) ?_
  by_cases h0:y= []
  ·subst h0
   have e:Y=0:=ey.symm
   subst e
   refine Ev.no (by simp) ?_
   rw[Nat.gcd_zero_right,←ex,digN_val hx]
   exact Ev.bind (Ev.con (show slices_Clone_uint32_uint32.f x=some x from if_pos (by omega))) (Ev.now _)
  ·have hp:=val_pos hy h0
   have hl:0< y.length:=Nat.pos_of_ne_zero fun h=>h0 (List.length_eq_zero_iff.1 h)
   refine Ev.yes (by omega) (Ev.bind (Ev.con (natDiv_is hx hy h0 hs)) ?_)
   have hm:=Nat.mod_lt X (show Y >0 by omega)
   rw[ex,ey]
   have e:Nat.gcd X Y=Nat.gcd Y (X % Y):=by rw[Nat.gcd_comm X Y,Nat.gcd_rec Y X,Nat.gcd_comm]
   rw[e]
   have hl2:=digN_len_le hy.1 (show X % Y≤valN y by omega)
   exact ih (X % Y) hm Y y (digN (X % Y)) hy (canon_digN _) ey (val_digN _) hys (by omega)
theorem natGcd_f{x y:List Int}(hx:canon x)(hy:canon y)(hs:x.length< 4294960000)(hys:y.length< 4294960000):Ev (fun k=>nat_gcd.f k x y) (digN (Nat.gcd (valN x) (valN y))):=natGcd_l0 _ _ x y hx hy rfl rfl hs hys
theorem form2{x y:List Int}(hx:canon x)(hy:canon y)(hs:x.length≤512)(hys:y.length≤512):Ev (fun k=>nat_form.f k ([x,y] :List (List Int))) 0:=by
 have:=natForm_f [x,y] (by simp) (by intro z hz;simp at hz;rcases hz with rfl|rfl<;>omega)
 rw[formL,formV_canon hx hs,if_pos rfl,formL,formV_canon hy hys,if_pos rfl,formL]at this
 exact this
theorem natGcdE_f{x y:List Int}(hx:canon x)(hy:canon y)(hs:x.length≤512)(hys:y.length≤512):Ev (fun k=>nat_Gcd.f k x y) (digN (Nat.gcd (valN x) (valN y)),0):=by
 unfold nat_Gcd.f
 exact Ev.bind (form2 hx hy hs hys) (Ev.yes rfl (Ev.bind (natGcd_f hx hy (by omega) (by omega)) (Ev.now _)))
theorem natDivE_f{x y:List Int}(hx:canon x)(hy:canon y)(h0:y≠ [])(hs:x.length≤512)(hys:y.length≤512):Ev (fun k=>nat_Div.f k x y) (digN (valN x / valN y),digN (valN x % valN y),0):=by
 unfold nat_Div.f
 have hl:0< y.length:=Nat.pos_of_ne_zero fun h=>h0 (List.length_eq_zero_iff.1 h)
 exact Ev.bind (form2 hx hy hs hys) (Ev.yes rfl (Ev.no (by omega) (Ev.bind (Ev.con (natDiv_is hx hy h0 (by omega))) (Ev.now _))))
theorem bitLen_nb: ∀ (f x:Nat),x< 2 ^ f→f≤64→Lib.bitLen x=nb x
  |0,x,h,_=>by
                     have e:x=0:=by simpa using h
                     subst e;rw[nb_zero];rfl
  |f+1,x,h,hf=>by
    by_cases h0:x=0
    · subst h0;rw[nb_zero];rfl
    · have h64:x< 2 ^ 64:=Nat.lt_of_lt_of_le h (Nat.pow_le_pow_right (by decide) hf)
      rw[Lib.bitLen_half x h0 h64,nb_pos h0,bitLen_nb f (x / 2) (by rw[Nat.pow_succ]at h;omega) (by omega)]
      omega
theorem nb_shift(k:Nat): ∀ (d r:Nat),d≠0→r< 2 ^ k→nb (r+2 ^ k * d)=k+nb d:=by
 induction k with
 |zero=>
      intro d r hd hr;have:r=0:=by simpa using hr
      subst this;simp
 |succ k ih=>
  intro d r hd hr
  have hp:0< 2 ^ k * d:=Nat.mul_pos (Nat.pow_pos (by decide)) (Nat.pos_of_ne_zero hd)
  rw[Nat.pow_succ]at hr
  have e:r+2 ^ (k+1) * d=r+2 * (2 ^ k * d):=by rw[Nat.pow_succ,Nat.mul_comm (2 ^ k) 2,Nat.mul_assoc]
  rw[e,nb_pos (by omega),show(r+2 * (2 ^ k * d)) / 2=r / 2+2 ^ k * d by omega,ih d (r / 2) hd (by omega)]
  omega
theorem nbTop{x:List Int}(hx:canon x){n:Nat}(hn:x.length=n+1):nb (valN x)=32 * n+nb (dgt x n):=by
 have hd:dgt x n≠0:=by
  intro e
  have h1:=val_top x hn
  have h2:valN (x.take n)< 4294967296 ^ n:=val_take_lt hx.1 n
  have h3:=val_ge hx hn
  rw[e,Nat.mul_zero]at h1;omega
 have h1:=val_top x hn
 have hB:(4294967296:Nat) ^ n=2 ^ (32 * n):=by rw[Nat.pow_mul]
 rw[h1,hB]
 exact nb_shift _ _ _ hd (by rw[←hB];exact val_take_lt hx.1 n)
theorem natSize_f{x:List Int}(hx:canon x)(hs:x.length≤512):nat_size.f x=some ((nb (valN x):Nat):Int):=by
 unfold nat_size.f
 by_cases h0:x.length=0
 ·have e:x= [] :=List.length_eq_zero_iff.1 h0
  subst e
  rw[show valN [] =0 from rfl,nb_zero];rfl
 ·obtain⟨n,hn⟩: ∃n,x.length=n+1:=⟨x.length - 1,by omega⟩
  have e:wrap64 ((x.length:Int) - 1)=((n:Nat):Int):=by rw[w64 _ (by omega)];omega
  have hd:=dgt_lt hx.1 n
  rw[if_neg (by omega),e,if_pos (by omega),if_pos (by omega),rd_dgt hx.1]
  have hb:bits_Len32.f ((dgt x n:Nat):Int)=some ((nb (dgt x n):Nat):Int):=by
   unfold bits_Len32.f
   rw[if_pos (by omega),if_pos (by omega),Int.toNat_natCast,bitLen_nb 32 _ hd (by decide)]
  have hle:nb (dgt x n)≤32:=nb_le hd
  rw[hb,Option.bind_some,nbTop hx hn]
  have e1:wrap64 (32 * ((n:Nat):Int))=((32 * n:Nat):Int):=by rw[w64 _ (by omega)];omega
  rw[e1,w64 _ (by omega)]
  exact congrArg some (by omega)
theorem form1{x:List Int}(hl:x.length< 4294967296):Ev (fun k=>nat_form.f k ([x] :List (List Int))) (formV x):=by
 have:=natForm_f [x] (by simp) (by intro z hz;simp at hz;subst hz;exact hl)
 rw[formL]at this
 by_cases h:formV x=0
 ·rw[if_pos h,formL]at this;rw[h];exact this
 ·rw[if_neg h]at this;exact this
theorem long_f{x:List Int}(hx:canon x)(hs:x.length≤512):Ev (fun k=>frac_long.f k x) (decide (4096< nb (valN x))):=by
 unfold frac_long.f nat_Bits.f
 have h1:=form1 (x:=x) (by omega)
 rw[formV_canon hx hs]at h1
 refine Ev.bind (Ev.bind h1 (Ev.yes rfl (Ev.bind (Ev.con (natSize_f hx hs)) (Ev.now _)))) (Ev.yes rfl (Ev.is ?_))
 congr 1
 exact propext (by constructor<;>intro h<;>omega)
theorem boundR_digN(f:Int)(p:Bool)(a b:Nat):boundR (f,p,digN a,digN b)=if 4096< nb a∨4096< nb b then(4,false,[],[])else(f,p,digN a,digN b):=by
 unfold boundR
 rw[val_digN,val_digN]
theorem quotient_f{neg:Bool}{x y:List Int}(hx:canon x)(hy:canon y)(hs:x.length≤512)(hys:y.length≤512):Ev (fun k=>frac_quotient.f k neg x y) (ratioR neg (valN x) (valN y)):=by
 unfold frac_quotient.f ratioR
 by_cases h0:y.length=0
 ·have e:y= [] :=List.length_eq_zero_iff.1 h0
  subst e
  rw[if_pos (show valN [] =0 from rfl)]
  exact Ev.yes rfl (Ev.now _)
 ·have hy0:y≠ [] :=fun e=>h0 (by rw[e];rfl)
  have hp:=val_pos hy hy0
  rw[if_neg (by omega)]
  have hg:0< Nat.gcd (valN x) (valN y):=Nat.gcd_pos_of_pos_right _ hp
  have hgl:=digN_len_le hy.1 (Nat.le_of_dvd hp (Nat.gcd_dvd_right (valN x) (valN y)))
  have hgn:digN (Nat.gcd (valN x) (valN y))≠ [] :=fun e=>by rw[digN_nil]at e;omega
  refine Ev.no (by omega) (Ev.bind (natGcdE_f hx hy hs hys) (Ev.bind (Ev.con (show frac_natural.f _ _=some _ from rfl)) (Ev.bind (natDivE_f hx (canon_digN _) hgn hs (Nat.le_trans hgl hys)) (Ev.bind (natDivE_f hy (canon_digN _) hgn hys (Nat.le_trans hgl hys)) ?_))))
  rw[val_digN]
  have l1:=digN_len_le hx.1 (Nat.div_le_self (valN x) (Nat.gcd (valN x) (valN y)))
  have l2:=digN_len_le hy.1 (Nat.div_le_self (valN y) (Nat.gcd (valN x) (valN y)))
  have hex:exactR neg (valN x) (valN y)=(0,neg && decide (valN x / Nat.gcd (valN x) (valN y)≠0),digN (valN x / Nat.gcd (valN x) (valN y)),digN (valN y / Nat.gcd (valN x) (valN y))):=by
   unfold exactR
   by_cases hx0:valN x=0
   ·rw[if_pos hx0,hx0,Nat.gcd_zero_left,Nat.zero_div,digN_zero,Nat.div_self hp,digN_pos (by decide)]
    simp[digN_zero]
   ·have:valN x / Nat.gcd (valN x) (valN y)≠0:=fun e=>by
     have h1:=Nat.div_add_mod (valN x) (Nat.gcd (valN x) (valN y))
     rw[e,Nat.mul_zero,Nat.mod_eq_zero_of_dvd (Nat.gcd_dvd_left _ _)]at h1
     omega
    rw[if_neg hx0,decide_eq_true this,Bool.and_true]
  rw[hex,boundR_digN]
  generalize hA:valN x / Nat.gcd (valN x) (valN y)=A at *
  generalize hB:valN y / Nat.gcd (valN x) (valN y)=B at *
  refine Ev.bind (long_f (canon_digN _) (Nat.le_trans l1 hs)) ?_
  rw[val_digN]
  by_cases c1:4096< nb A
  ·rw[if_pos (show 4096< nb A∨4096< nb B from Or.inl c1)]
   exact Ev.yes (decide_eq_true c1) (Ev.bind (Ev.con (show frac_fault.f 4=some (4,false,[],[])from rfl)) (Ev.now _))
  ·refine Ev.no (fun h=>c1 (of_decide_eq_true h)) (Ev.bind (long_f (canon_digN _) (Nat.le_trans l2 hys)) ?_)
   rw[val_digN]
   by_cases c2:4096< nb B
   ·rw[if_pos (show 4096< nb A∨4096< nb B from Or.inr c2)]
    exact Ev.yes (decide_eq_true c2) (Ev.bind (Ev.con (show frac_fault.f 4=some (4,false,[],[])from rfl)) (Ev.now _))
   ·rw[if_neg (show¬ (4096< nb A∨4096< nb B)from fun h=>h.elim c1 c2)]
    refine Ev.no (fun h=>c2 (of_decide_eq_true h)) ?_
    have hlen:decide ((((digN A).length:Nat):Int) >0)=decide (A≠0):=by
     congr 1
     refine propext ⟨fun h e=>?_,fun h=>?_⟩
     ·rw[e,digN_zero]at h;simp at h
     ·have:digN A≠ [] :=fun e=>h (digN_nil.1 e)
      have:=List.length_pos_iff.2 this
      omega
    cases neg with
    |true=>exact Ev.yes rfl (Ev.is (by simp only[hlen,Bool.true_and]))
    |false=>exact Ev.no (by decide) (Ev.is (by simp only[Bool.false_and]))
def fB(x:List Int):Bool:=canonB x && decide (x.length≤512)
theorem fB_iff{x:List Int} :fB x=true↔canon x∧x.length≤512:=by unfold fB;rw[Bool.and_eq_true,canonB_iff,decide_eq_true_iff]
theorem form_dec{x:List Int}(hx:u32s x)(hl:x.length< 4294967296):Ev (fun k=>nat_IsNat.f k x) (fB x):=by
 unfold nat_IsNat.f
 refine Ev.bind (form1 hl) (Ev.is ?_)
 rw[Bool.eq_iff_iff,beq_iff_eq,fB_iff]
 exact⟨fun h=>canon_formV hx h,fun h=>formV_canon h.1 h.2⟩
theorem pow_split(a b:Nat)(h:b=32 * a):(2:Nat) ^ b=4294967296 ^ a:=by
 subst h
 rw[Nat.pow_mul]
theorem nb_long{x:List Int}(hx:canon x):nb (valN x)≤4096↔x.length≤128:=by
 constructor
 ·intro h
  refine Nat.le_of_not_lt fun hl=>?_
  obtain⟨n,hn⟩: ∃n,x.length=n+1:=⟨x.length - 1,by omega⟩
  have h1:=nb_top hx hn
  have hp:0< nb (dgt x n):=by
   refine Nat.pos_of_ne_zero fun e=>?_
   have h2:=nb_lt (dgt x n)
   rw[e,Nat.pow_zero]at h2
   have h3:=val_top x hn
   have h4:valN (x.take n)< 4294967296 ^ n:=val_take_lt hx.1 n
   have h5:=val_ge hx hn
   rw[show dgt x n=0 by omega,Nat.mul_zero]at h3
   omega
  omega
 ·intro h
  refine nb_le ?_
  have h1:=val_lt hx.1
  have h2:(4294967296:Nat) ^ x.length≤4294967296 ^ 128:=Nat.pow_le_pow_right (by decide) h
  rw[pow_split 128 4096 rfl]
  omega
theorem good_iff{x:List Int}(hx:u32s x):goodB x=true↔canon x∧x.length≤128:=by
 refine⟨good_canon hx,fun h=>?_⟩
 unfold goodB
 rw[Bool.and_eq_true,decide_eq_true_iff,Bool.or_eq_true,decide_eq_true_iff]
 refine⟨h.2,?_⟩
 by_cases hn:x= []
 ·exact .inl (by rw[hn];rfl)
 ·exact .inr (by rw[List.getLast?_eq_some_getLast hn];exact h.1.2 hn)
theorem progIsRat_f{f:Int}{p:Bool}{x a:List Int}(hx:u32s x)(ha:u32s a)(lx:x.length< 4294967296)(la:a.length< 4294967296)(hw:f≠0→x.length+a.length< 9223372036854775808):Ev (fun k=>frac_IsRat.f k f p x a) (isRatB f p x a):=by
 unfold frac_IsRat.f isRatB
 have emp: ∀z:List Int,((z.length:Int)=0)↔z.isEmpty=true:=by intro z;cases z<;>simp;omega
 by_cases h0:f=0
 ·rw[if_pos h0]
  refine Ev.yes h0 (Ev.bind (form_dec hx lx) ?_)
  by_cases c1:canon x∧x.length≤512
  ·refine Ev.yes (fB_iff.2 c1) (Ev.bind (form_dec ha la) ?_)
   by_cases c2:canon a∧a.length≤512
   ·refine Ev.yes (fB_iff.2 c2) (Ev.bind (long_f c1.1 c1.2) ?_)
    by_cases g1:goodB x=true
    ·have l1:=(nb_long c1.1).2 (good_canon hx g1).2
     refine Ev.no (fun h=>by have:=of_decide_eq_true h;omega) (Ev.bind (long_f c2.1 c2.2) ?_)
     rw[g1,Bool.true_and]
     by_cases g2:goodB a=true
     ·have l2:=(nb_long c2.1).2 (good_canon ha g2).2
      refine Ev.no (fun h=>by have:=of_decide_eq_true h;omega) ?_
      rw[g2,Bool.true_and]
      cases e1:a.isEmpty with
      |true=>exact Ev.yes ((emp a).2 e1) (Ev.now _)
      |false=>
       refine Ev.no (fun h=>by rw[(emp a).1 h]at e1;exact absurd e1 (by decide)) ?_
       have hpa:=val_pos c2.1 (fun e=>by rw[e]at e1;simp at e1)
       have hg:=natGcdE_f c1.1 c2.1 c1.2 c2.2
       have one:=one_digit (Nat.gcd (valN x) (valN a)) (Nat.gcd_pos_of_pos_right _ hpa)
       cases p with
       |true=>
        refine Ev.yes rfl ?_
        cases e2:x.isEmpty with
        |true=>exact Ev.yes ((emp x).2 e2) (Ev.now _)
        |false=>exact Ev.no (fun h=>by rw[(emp x).1 h]at e2;exact absurd e2 (by decide)) (Ev.bind hg (Ev.con one))
       |false=>exact Ev.no (by decide) (Ev.bind hg (Ev.con one))
     ·refine Ev.yes (decide_eq_true (Nat.lt_of_not_le fun h=>g2 ((good_iff ha).2 ⟨c2.1,(nb_long c2.1).1 h⟩))) ?_
      rw[Bool.eq_false_iff.2 g2];exact Ev.now _
    ·refine Ev.yes (decide_eq_true (Nat.lt_of_not_le fun h=>g1 ((good_iff hx).2 ⟨c1.1,(nb_long c1.1).1 h⟩))) ?_
     rw[Bool.eq_false_iff.2 g1];exact Ev.now _
   ·refine Ev.no (fun h=>c2 (fB_iff.1 h)) ?_
    have g2:goodB a=false:=Bool.eq_false_iff.2 fun h=>c2 ⟨(good_canon ha h).1,by have:=(good_canon ha h).2;omega⟩
    rw[g2,Bool.false_and,Bool.and_false];exact Ev.now _
  ·refine Ev.no (fun h=>c1 (fB_iff.1 h)) ?_
   have g1:goodB x=false:=Bool.eq_false_iff.2 fun h=>c1 ⟨(good_canon hx h).1,by have:=(good_canon hx h).2;omega⟩
   rw[g1,Bool.false_and];exact Ev.now _
 ·rw[if_neg h0]
  have hw:=hw h0
  have ew:wrap64 ((x.length:Int) + (a.length:Int))=(x.length:Int) + (a.length:Int):=w64 _ (by omega)
  have hfl:frac_isFault.f f=some (decide (f=4) ||decide (f=11)):=by
   unfold frac_isFault.f
   by_cases h4:f=4
   ·rw[if_pos h4,decide_eq_true h4];rfl
   ·rw[if_neg h4,decide_eq_false h4,Bool.false_or];congr 1
  refine Ev.no h0 (Ev.bind (Ev.con hfl) ?_)
  cases hb:(decide (f=4) ||decide (f=11))with
  |false=>exact Ev.no (by decide) (Ev.now _)
  |true=>
   refine Ev.yes rfl ?_
   cases p with
   |true=>exact Ev.yes rfl (Ev.now _)
   |false=>
    refine Ev.no (by decide) (Ev.is ?_)
    rw[ew]
    congr 1
    rw[Bool.eq_iff_iff,beq_iff_eq]
    cases x<;>cases a<;>simp<;>omega
theorem isRat_facts{f:Int}{p:Bool}{x a:List Int}(hx:u32s x)(ha:u32s a)(h:isRatB f p x a=true):canon x∧canon a∧x.length≤128∧a.length≤128:=by
 unfold isRatB at h
 by_cases h0:f=0
 ·rw[if_pos h0]at h
  simp only[Bool.and_eq_true]at h
  have h1:=good_canon hx h.1
  have h2:=good_canon ha h.2.1
  exact⟨h1.1,h2.1,h1.2,h2.2⟩
 ·rw[if_neg h0]at h
  simp only[Bool.and_eq_true,List.isEmpty_iff]at h
  obtain⟨_,_,rfl,rfl⟩:=h
  exact⟨canon_nil,canon_nil,by simp,by simp⟩
def addR(f1:Int)(p:Bool)(x a:List Int)(f2:Int)(q:Bool)(y b:List Int):Int×Bool×List Int×List Int:=
 if leastR f1 f2=0 then ratioR (signedR p (valN x * valN b) q (valN y * valN a)).1 (signedR p (valN x * valN b) q (valN y * valN a)).2 (valN a * valN b)else(leastR f1 f2,false,[],[])
theorem refAdd_addR{f1 f2:Int}{p q:Bool}{x a y b:List Int}(hx:u32s x)(ha:u32s a)(hy:u32s y)(hb:u32s b)(lx:x.length≤1000)(la:a.length≤1000)(ly:y.length≤1000)(lb:b.length≤1000):
  Ev (fun k=>fluxionref02_Add.f k f1 p x a f2 q y b) (addR f1 p x a f2 q y b):=refAddR_f hx ha hy hb lx la ly lb
abbrev RatV:=Int×Bool×List Int×List Int
def validR(r:RatV):Prop:=u32s r.2.2.1∧u32s r.2.2.2∧isRatB r.1 r.2.1 r.2.2.1 r.2.2.2=true
def plusR(r s:RatV):RatV:=addR r.1 r.2.1 r.2.2.1 r.2.2.2 s.1 s.2.1 s.2.2.1 s.2.2.2
def mulR(r s:RatV):RatV:=if leastR r.1 s.1=0 then ratioR (r.2.1 !=s.2.1) (valN r.2.2.1 * valN s.2.2.1) (valN r.2.2.2 * valN s.2.2.2)else(leastR r.1 s.1,false,[],[])
theorem val_one:valN [1] =1:=by simp[valN]
theorem val_nilN:valN [] =0:=by simp[valN]
theorem digN_one:digN 1= [1] :=by
 have h:canon [1] :=⟨u32s_cons.2 ⟨by decide,u32s_nil⟩,fun h=>by simp⟩
 rw[←digN_val h,val_one]
theorem canon_goodB{x:List Int}(h:canon x)(hl:x.length≤128):goodB x=true:=by
 unfold goodB
 rw[Bool.and_eq_true,decide_eq_true_iff,Bool.or_eq_true,decide_eq_true_iff]
 refine⟨hl,?_⟩
 by_cases hn:x= []
 ·left;rw[hn];rfl
 ·right;rw[List.getLast?_eq_some_getLast hn];exact h.2 hn
theorem nb_digN{n:Nat} :nb n≤4096↔(digN n).length≤128:=by
 have:=nb_long (canon_digN n)
 rwa [val_digN]at this
theorem isRat_zero_parts{p:Bool}{x a:List Int}(hx:u32s x)(ha:u32s a)(h:isRatB 0 p x a=true):canon x∧canon a∧x.length≤128∧a.length≤128∧a≠ [] ∧(p=true→x≠ [])∧Nat.gcd (valN x) (valN a)=1:=by
 obtain⟨h1,h2,h3,h4⟩:=isRat_facts hx ha h
 unfold isRatB at h
 rw[if_pos rfl]at h
 simp only[Bool.and_eq_true,Bool.not_eq_true',decide_eq_true_eq,Bool.and_eq_false_iff]at h
 obtain⟨_,_,h5,h6,h7⟩:=h
 refine⟨h1,h2,h3,h4,fun e=>by rw[e]at h5;simp at h5,fun hp e=>?_,h7⟩
 rcases h6 with h6|h6
 ·rw[hp]at h6;cases h6
 ·rw[e]at h6;simp at h6
theorem isRat_fault{f:Int}{p:Bool}{x a:List Int}(hf:f≠0)(h:isRatB f p x a=true):(f=4∨f=11)∧p=false∧x= [] ∧a= [] :=by
 unfold isRatB at h
 rw[if_neg hf]at h
 simp only[Bool.and_eq_true,Bool.or_eq_true,decide_eq_true_eq,Bool.not_eq_true',List.isEmpty_iff]at h
 exact⟨h.1,h.2.1,h.2.2.1,h.2.2.2⟩
theorem ratioR_self{p:Bool}{x a:List Int}(hx:u32s x)(ha:u32s a)(h:isRatB 0 p x a=true):ratioR p (valN x) (valN a)=(0,p,x,a):=by
 obtain⟨h1,h2,h3,h4,h5,h6,h7⟩:=isRat_zero_parts hx ha h
 have hd:valN a≠0:=Nat.pos_iff_ne_zero.1 (val_pos h2 h5)
 have hE:exactR p (valN x) (valN a)=(0,p,x,a):=by
  unfold exactR
  by_cases h0:valN x=0
  ·rw[if_pos h0]
   have hx0:x= [] :=by rw[←digN_val h1,h0,digN_zero]
   have hp:p=false:=by cases p with
    |false=>rfl
    |true=>exact absurd hx0 (h6 rfl)
   rw[h0,Nat.gcd_zero_left]at h7
   rw[hp,hx0,←digN_val h2,h7,digN_one]
  ·rw[if_neg h0,h7,Nat.div_one,Nat.div_one,digN_val h1,digN_val h2]
 unfold ratioR
 rw[if_neg hd,hE]
 unfold boundR
 rw[if_neg]
 rintro (h|h)
 ·have:=(nb_long h1).2 h3;simp only[]at h;omega
 ·have:=(nb_long h2).2 h4;simp only[]at h;omega
theorem isRat_whole(p:Bool){n d:Nat}(hn:n≠0)(hd:d≠0)(hg:Nat.gcd n d=1)(ln:nb n≤4096)(ld:nb d≤4096):validR (0,p,digN n,digN d):=by
 refine⟨(canon_digN n).1,(canon_digN d).1,?_⟩
 have e1:=canon_goodB (canon_digN n) (nb_digN.1 ln)
 have e2:=canon_goodB (canon_digN d) (nb_digN.1 ld)
 have n1:digN n≠ [] :=fun e=>hn (digN_nil.1 e)
 have n2:digN d≠ [] :=fun e=>hd (digN_nil.1 e)
 show isRatB 0 p (digN n) (digN d)=true
 unfold isRatB
 have e3:decide (Nat.gcd (valN (digN n)) (valN (digN d))=1)=true:=by rw[val_digN,val_digN];exact decide_eq_true hg
 rw[if_pos rfl,e1,e2,e3]
 cases h1:digN n with
 |nil=>exact absurd h1 n1
 |cons a x=>cases h2:digN d with
  |nil=>exact absurd h2 n2
  |cons b y=>simp
theorem valid_zero:validR (0,false,[],[1]):=by
 refine⟨u32s_nil,u32s_cons.2 ⟨by decide,u32s_nil⟩,?_⟩
 rfl
theorem valid_fault{f:Int}(h:f=4∨f=11):validR (f,false,[],[]):=by
 refine⟨u32s_nil,u32s_nil,?_⟩
 rcases h with rfl|rfl<;>rfl
theorem ratioR_valid(p:Bool)(n d:Nat):validR (ratioR p n d):=by
 unfold ratioR
 by_cases hd:d=0
 ·rw[if_pos hd];exact valid_fault (Or.inr rfl)
 ·rw[if_neg hd]
  unfold boundR
  by_cases hb:4096< nb (valN (exactR p n d).2.2.1)∨4096< nb (valN (exactR p n d).2.2.2)
  ·rw[if_pos hb];exact valid_fault (Or.inl rfl)
  ·rw[if_neg hb]
   unfold exactR at hb ⊢
   by_cases hn:n=0
   ·rw[if_pos hn];exact valid_zero
   ·rw[if_neg hn]at hb ⊢
    have hg:0< Nat.gcd n d:=Nat.gcd_pos_of_pos_left d (Nat.pos_of_ne_zero hn)
    simp only[val_digN,not_or,Nat.not_lt]at hb
    exact isRat_whole p (Nat.pos_iff_ne_zero.1 (Nat.div_pos (Nat.le_of_dvd (Nat.pos_of_ne_zero hn) (Nat.gcd_dvd_left n d)) hg)) (Nat.pos_iff_ne_zero.1 (Nat.div_pos (Nat.le_of_dvd (Nat.pos_of_ne_zero hd) (Nat.gcd_dvd_right n d)) hg)) (by rw[Nat.gcd_div (Nat.gcd_dvd_left n d) (Nat.gcd_dvd_right n d),Nat.div_self hg]) hb.1 hb.2
theorem valid_fault_of{r:RatV}(h:validR r)(hf:r.1≠0):(r.1=4∨r.1=11)∧r=(r.1,false,[],[]):=by
 obtain⟨f,p,x,a⟩:=r
 obtain⟨h1,rfl,rfl,rfl⟩:=isRat_fault hf h.2.2
 exact⟨h1,rfl⟩
theorem least_fault{r s:RatV}(hr:validR r)(hs:validR s)(h:leastR r.1 s.1≠0):leastR r.1 s.1=4∨leastR r.1 s.1=11:=by
 unfold leastR at h ⊢
 by_cases h1:r.1=0
 ·rw[if_pos h1]at h ⊢;exact(valid_fault_of hs h).1
 ·rw[if_neg h1]at h ⊢
  by_cases h2:s.1=0
  ·rw[if_pos h2]at h ⊢;exact(valid_fault_of hr h).1
  ·rw[if_neg h2]at h ⊢
   by_cases h3:s.1< r.1
   ·rw[if_pos h3];exact(valid_fault_of hs h2).1
   ·rw[if_neg h3];exact(valid_fault_of hr h1).1
theorem plusR_valid{r s:RatV}(hr:validR r)(hs:validR s):validR (plusR r s):=by
 unfold plusR addR
 by_cases h:leastR r.1 s.1=0
 ·rw[if_pos h];exact ratioR_valid _ _ _
 ·rw[if_neg h];exact valid_fault (least_fault hr hs h)
theorem plusR_zero{r:RatV}(hr:validR r):plusR r (0,false,[],[1])=r:=by
 unfold plusR addR
 by_cases hf:r.1=0
 ·obtain⟨f,p,x,a⟩:=r
  have hf:f=0:=hf
  subst hf
  rw[if_pos (show leastR 0 0=0 from rfl)]
  show ratioR (signedR p (valN x * valN [1]) false (valN [] * valN a)).1 (signedR p (valN x * valN [1]) false (valN [] * valN a)).2 (valN a * valN [1])=_
  rw[val_one,val_nilN,Nat.mul_one,Nat.mul_one,Nat.zero_mul,show signedR p (valN x) false 0=(p,valN x)from by unfold signedR;cases p<;>simp]
  exact ratioR_self hr.1 hr.2.1 hr.2.2
 ·have e:=valid_fault_of hr hf
  have hl:leastR r.1 0=r.1:=by unfold leastR;rw[if_neg hf,if_pos rfl]
  rw[if_neg (by rw[hl];exact hf)]
  show(leastR r.1 0,false,[],[])=r
  rw[hl];exact e.2.symm
theorem mulR_one{r:RatV}(hr:validR r):mulR r (0,false,[1],[1])=r:=by
 unfold mulR
 by_cases hf:r.1=0
 ·obtain⟨f,p,x,a⟩:=r
  have hf:f=0:=hf
  subst hf
  rw[if_pos (show leastR 0 0=0 from rfl)]
  show ratioR (p !=false) (valN x * valN [1]) (valN a * valN [1])=_
  rw[val_one,Nat.mul_one,Nat.mul_one,Bool.bne_false]
  exact ratioR_self hr.1 hr.2.1 hr.2.2
 ·have e:=valid_fault_of hr hf
  have hl:leastR r.1 0=r.1:=by unfold leastR;rw[if_neg hf,if_pos rfl]
  rw[if_neg (by rw[hl];exact hf)]
  show(leastR r.1 0,false,[],[])=r
  rw[hl];exact e.2.symm
theorem mulR_zero{r:RatV}(hr:validR r):mulR r (0,false,[],[1])=if r.1=0 then(0,false,[],[1])else r:=by
 unfold mulR
 by_cases hf:r.1=0
 ·obtain⟨f,p,x,a⟩:=r
  have hf:f=0:=hf
  subst hf
  obtain⟨_,h2,_,_,h5,_,_⟩:=isRat_zero_parts hr.1 hr.2.1 hr.2.2
  have hd:valN a≠0:=Nat.pos_iff_ne_zero.1 (val_pos h2 h5)
  rw[if_pos (show leastR 0 0=0 from rfl),if_pos rfl]
  show ratioR (p !=false) (valN x * valN []) (valN a * valN [1])=_
  rw[val_one,val_nilN,Nat.mul_one,Nat.mul_zero]
  unfold ratioR
  rw[if_neg hd]
  unfold exactR boundR
  rw[if_pos rfl,if_neg]
  rintro (h|h)
  ·have:=nb_le (n:=valN []) (k:=4096) (Nat.lt_of_le_of_lt (Nat.le_of_eq val_nilN) (Nat.two_pow_pos 4096));simp only[]at h;omega
  ·have:=nb_le (n:=valN [1]) (k:=4096) (Nat.lt_of_le_of_lt (Nat.le_of_eq val_one) (Nat.one_lt_two_pow (n:=4096) (by decide)));simp only[]at h;omega
 ·have e:=valid_fault_of hr hf
  have hl:leastR r.1 0=r.1:=by unfold leastR;rw[if_neg hf,if_pos rfl]
  rw[if_neg (by rw[hl];exact hf),if_neg hf]
  show(leastR r.1 0,false,[],[])=r
  rw[hl];exact e.2.symm
theorem ratioR_zero1:ratioR false 0 1=(0,false,[],[1]):=by
 have:=ratioR_self (p:=false) (x:= []) (a:= [1]) valid_zero.1 valid_zero.2.1 valid_zero.2.2
 rwa [val_nilN,val_one]at this
theorem valid_one:validR (0,false,[1],[1]):=by
 have:=isRat_whole false (n:=1) (d:=1) (by decide) (by decide) (by decide) (Nat.le_trans (nb_le (n:=1) (k:=1) (by decide)) (by decide)) (Nat.le_trans (nb_le (n:=1) (k:=1) (by decide)) (by decide))
 rwa [digN_one]at this
theorem ratioR_one1:ratioR false 1 1=(0,false,[1],[1]):=by
 have:=ratioR_self (p:=false) (x:= [1]) (a:= [1]) valid_one.1 valid_one.2.1 valid_one.2.2
 rwa [val_one]at this
theorem size_f{n:Nat}(h:n< 9223372036854775808):Ev (fun k=>frac_size.f k (n:Int)) (false,digN n):=by
 unfold frac_size.f
 refine Ev.no (by omega) ?_
 rw[u64w (n:Int) (by omega)]
 exact Ev.bind (natOf_f n (by omega)) (Ev.now _)
theorem wholeN_f{n:Nat}(h:n< 9223372036854775808):Ev (fun k=>sparse_whole.f k (n:Int)) (ratioR false n 1):=by
 have l:(digN n).length≤2:=len_digN_le (by omega)
 have l1:(digN 1).length≤2:=len_digN_le (by omega)
 have hq:=quotient_f (neg:=false) (canon_digN n) (canon_digN 1) (by omega) (by omega)
 rw[val_digN,val_digN]at hq
 unfold sparse_whole.f frac_Of.f
 exact Ev.bind (Ev.bind (size_f h) (Ev.bind (size_f (n:=1) (by decide)) (Ev.bind hq (Ev.now _)))) (Ev.now _)
theorem refOfN_f{n:Nat}(h:n< 9223372036854775808):Ev (fun k=>fluxionref02_Of.f k (n:Int) 1) (ratioR false n 1):=by
 unfold fluxionref02_Of.f fluxionref02_size.f
 rw[if_neg (by omega),if_neg (by omega),u64w (n:Int) (by omega),u64w 1 (by omega),decide_eq_false (show¬ (n:Int)< 0 by omega),decide_eq_false (show¬ (1:Int)< 0 by omega)]
 refine Ev.bind (Ev.now _) (Ev.bind (refOf01_f n (by omega)) (Ev.bind (Ev.now _) (Ev.bind (refOf01_f 1 (by omega)) (Ev.bind (refRatioN_f (L:=2) (by omega) (by omega) (by omega)) (Ev.now _)))))
def rv(x:S59):RatV:=(x.f0,x.f1,x.f2,x.f3)
def sv(r:RatV):S59:=⟨r.1,r.2.1,r.2.2.1,r.2.2.2⟩
def sumV(c:Int):List Int→List S59→RatV→RatV
 |d::ds,x::xs,acc=>sumV c ds xs (if d=c∨x.f0≠0 then plusR acc (rv x)else acc)
 |_,_,acc=>acc
def rowV(l1:List Int)(row:List S59):Nat→Nat→List S59→List S59
 |0,_,acc=>acc
 |n+1,c,acc=>rowV l1 row n (c+1) (acc++ [sv (sumV (c:Int) l1 row (0,false,[],[1]))])
def rowsV(l1:List Int)(m:Nat):List (List S59)→List (List S59)→List (List S59)
 | [],acc=>acc
 |row::l,acc=>rowsV l1 m l (acc++ [rowV l1 row m 0 []])
theorem plusR_step{acc:RatV}(ha:validR acc){x:RatV}(hx:validR x){d c:Int} :plusR acc (mulR x (if d=c then(0,false,[1],[1])else(0,false,[],[1])))=if d=c∨x.1≠0 then plusR acc x else acc:=by
 by_cases h:d=c
 ·rw[if_pos h,if_pos (Or.inl h),mulR_one hx]
 ·rw[if_neg h,mulR_zero hx]
  by_cases h0:x.1=0
  ·rw[if_pos h0,if_neg (by rintro (h1|h1);exact h h1;exact h1 h0),plusR_zero ha]
  ·rw[if_neg h0,if_pos (Or.inr h0)]
theorem valid_len{r:RatV}(h:validR r):r.2.2.1.length≤1000∧r.2.2.2.length≤1000:=by
 obtain⟨_,_,h3,h4⟩:=isRat_facts h.1 h.2.1 h.2.2
 omega
theorem mulR_valid{r s:RatV}(hr:validR r)(hs:validR s):validR (mulR r s):=by
 unfold mulR
 by_cases h:leastR r.1 s.1=0
 ·rw[if_pos h];exact ratioR_valid _ _ _
 ·rw[if_neg h];exact valid_fault (least_fault hr hs h)
theorem refMul_mulR{r s:RatV}(hr:validR r)(hs:validR s):Ev (fun k=>fluxionref02_Mul.f k r.1 r.2.1 r.2.2.1 r.2.2.2 s.1 s.2.1 s.2.2.1 s.2.2.2) (mulR r s):=by
 have h1:=valid_len hr
 have h2:=valid_len hs
 exact refMulR_f hr.1 hr.2.1 hs.1 hs.2.1 h1.1 h1.2 h2.1 h2.2
theorem refAdd_plusR{r s:RatV}(hr:validR r)(hs:validR s):Ev (fun k=>fluxionref02_Add.f k r.1 r.2.1 r.2.2.1 r.2.2.2 s.1 s.2.1 s.2.2.1 s.2.2.2) (plusR r s):=by
 have h1:=valid_len hr
 have h2:=valid_len hs
 exact refAdd_addR hr.1 hr.2.1 hs.1 hs.2.1 h1.1 h1.2 h2.1 h2.2
theorem refSq_l2{l0:List (List S59)}{l1:List Int}{i:Nat}(hi:i< l0.length)(hi2:l0.length< 4294967296){row:List S59}(hrow:l0.getD i [] =row)(hl:l1.length=row.length)(hs:l1.length< 4294967296)(hv: ∀x,x∈row→validR (rv x))
  {o:List (List S59)} {x7:List S59} {c:Int} {R:List (List S59)} {tot:RatV} (h7:x7.length< 2199023255552) (fin:Ev (fun k=>fluxionref19_Squeeze.l1 k l0 l1 o i (x7++ [sv tot]) (wrap64 (c+1))) R):
  ∀d j (acc:RatV),j+d=l1.length→sumV c (l1.drop j) (row.drop j) acc=tot→validR acc→Ev (fun k=>fluxionref19_Squeeze.l2 k l0 l1 o i x7 c j acc.1 acc.2.1 acc.2.2.1 acc.2.2.2) R:=by
 have hz:=refOfN_f (n:=0) (by decide)
 rw[ratioR_zero1]at hz
 have h1:=refOfN_f (n:=1) (by decide)
 rw[ratioR_one1]at h1
 intro d
 induction d with
 |zero=>
  intro j acc hj ht ha
  refine Ev.step (fun k=>by rw[fluxionref19_Squeeze.l2]) ?_
  refine Ev.no (by omega) (Ev.yes h7 ?_)
  rw[List.drop_eq_nil_of_le (by omega),List.drop_eq_nil_of_le (by omega)]at ht
  have ht:acc=tot:=ht
  rw[←ht]at fin
  exact fin
 |succ d ih=>
  intro j acc hj ht ha
  have hj1:j< l1.length:=by omega
  have hj2:j< row.length:=by omega
  rw[List.drop_eq_getElem_cons hj1,List.drop_eq_getElem_cons hj2,sumV]at ht
  have hx:=hv row[j] (List.getElem_mem hj2)
  have er:rd_L6 l0 (i:Int)=row:=by rw[←hrow];show l0.getD (Int.toNat i) [] =_;rw[Int.toNat_natCast]
  have ex:rd_T59 row (j:Int)=row[j] :=by unfold rd_T59;rw[Int.toNat_natCast];simp[hj2]
  have ec:rd l1 (j:Int)=l1[j] :=by unfold rd;rw[Int.toNat_natCast];simp[hj1]
  have hstep:=plusR_step ha hx (d:=l1[j]) (c:=c)
  refine Ev.step (fun k=>by rw[fluxionref19_Squeeze.l2]) ?_
  rw[er,ex,ec,w64 ((j:Int) +1) (by omega)]
  generalize row[j] =x at *
  generalize l1[j] =e at *
  have hmv:validR (mulR (rv x) (if e=c then(0,false,[1],[1])else(0,false,[],[1]))):=by
   split
   ·exact mulR_valid hx valid_one
   ·exact mulR_valid hx valid_zero
  have hnext:=ih (j+1) (plusR acc (mulR (rv x) (if e=c then(0,false,[1],[1])else(0,false,[],[1])))) (by omega) (by rw[hstep];exact ht) (plusR_valid ha hmv)
  refine Ev.yes (by omega) (Ev.bind hz (Ev.yes (by omega) ?_))
  by_cases hec:e=c
  ·rw[if_pos hec]at hnext hmv
   exact Ev.yes hec (Ev.bind h1 (Ev.yes (by omega) (Ev.yes (by omega) (Ev.yes (by omega) (Ev.bind (refMul_mulR hx valid_one) (Ev.bind (refAdd_plusR ha hmv) hnext))))))
  ·rw[if_neg hec]at hnext hmv
   exact Ev.no hec (Ev.yes (by omega) (Ev.yes (by omega) (Ev.yes (by omega) (Ev.bind (refMul_mulR hx valid_zero) (Ev.bind (refAdd_plusR ha hmv) hnext)))))
theorem refSq_l1{l0:List (List S59)}{l1:List Int}{i:Nat}(hi:i< l0.length)(hi2:l0.length< 4294967296){row:List S59}(hrow:l0.getD i [] =row)(hl:l1.length=row.length)(hs:l1.length< 4294967296)(hv: ∀x,x∈row→validR (rv x))
  {m:Nat} (hm:m< 4294967296) (hM:Ev (fun k=>fluxionref19_Many.f k l1) ((m:Nat):Int)) {o:List (List S59)} {R:List (List S59)} {tot:List S59} (ho:o.length< 4294967296) (fin:Ev (fun k=>fluxionref19_Squeeze.l0 k l0 l1 (o++ [tot]) ((i+1:Nat):Int)) R):
  ∀d c x7,c+d=m→x7.length=c→rowV l1 row d c x7=tot→Ev (fun k=>fluxionref19_Squeeze.l1 k l0 l1 o i x7 c) R:=by
 have hz:=refOfN_f (n:=0) (by decide)
 rw[ratioR_zero1]at hz
 intro d
 induction d with
 |zero=>
  intro c x7 hc h7 ht
  refine Ev.step (fun k=>by rw[fluxionref19_Squeeze.l1]) ?_
  refine Ev.bind hM (Ev.no (by omega) (Ev.yes (by omega) ?_))
  rw[w64 ((i:Int) +1) (by omega)]
  have ht:x7=tot:=ht
  rw[ht]
  exact fin
 |succ d ih=>
  intro c x7 hc h7 ht
  refine Ev.step (fun k=>by rw[fluxionref19_Squeeze.l1]) ?_
  refine Ev.bind hM (Ev.yes (by omega) (Ev.bind hz ?_))
  refine refSq_l2 hi hi2 hrow hl hs hv (c:=(c:Int)) (by omega) (tot:=sumV (c:Int) l1 row (0,false,[],[1])) ?_ l1.length 0 (0,false,[],[1]) (by omega) rfl valid_zero
  rw[w64 ((c:Int) +1) (by omega)]
  exact ih (c+1) _ (by omega) (by rw[List.length_append,h7];rfl) ht
theorem refSq_l0{l0:List (List S59)}{l1:List Int}(hi2:l0.length< 4294967296)(hr: ∀row,row∈l0→l1.length=row.length∧ ∀x,x∈row→validR (rv x))(hs:l1.length< 4294967296)
  {m:Nat} (hm:m< 4294967296) (hM:Ev (fun k=>fluxionref19_Many.f k l1) ((m:Nat):Int)):
  ∀d i o,i+d=l0.length→o.length=i→Ev (fun k=>fluxionref19_Squeeze.l0 k l0 l1 o ((i:Nat):Int)) (rowsV l1 m (l0.drop i) o):=by
 intro d
 induction d with
 |zero=>
  intro i o hi ho
  refine Ev.step (fun k=>by rw[fluxionref19_Squeeze.l0]) ?_
  refine Ev.no (by omega) (Ev.is ?_)
  rw[List.drop_eq_nil_of_le (by omega)];rfl
 |succ d ih=>
  intro i o hi ho
  have hlt:i< l0.length:=by omega
  have h1:=hr l0[i] (List.getElem_mem hlt)
  refine Ev.step (fun k=>by rw[fluxionref19_Squeeze.l0]) ?_
  refine Ev.yes (by omega) ?_
  rw[List.drop_eq_getElem_cons hlt,rowsV]
  exact refSq_l1 hlt hi2 (by simp[hlt]) h1.1 hs h1.2 hm hM (by omega) (ih (i+1) _ (by omega) (by rw[List.length_append,ho];rfl)) m 0 [] (by omega) rfl rfl
theorem refSqueeze_f{l0:List (List S59)}{l1:List Int}(hi2:l0.length< 4294967296)(hr: ∀row,row∈l0→l1.length=row.length∧ ∀x,x∈row→validR (rv x))(hs:l1.length< 4294967296)
  {m:Nat} (hm:m< 4294967296) (hM:Ev (fun k=>fluxionref19_Many.f k l1) ((m:Nat):Int)):Ev (fun k=>fluxionref19_Squeeze.f k l0 l1) (rowsV l1 m l0 []):=by
 have:=refSq_l0 hi2 hr hs hm hM l0.length 0 [] (by omega) rfl
 rwa [List.drop_zero]at this
def u32R(x:S59):Prop:=u32s x.f2∧u32s x.f3∧x.f2.length< 1000000∧x.f3.length< 1000000
def okR(x:S59):Bool:=isRatB x.f0 x.f1 x.f2 x.f3
theorem ev_all{α β:Type}{f:Nat→α→Option β}{v:α→β} : ∀ (l:List α),(∀x,x∈l→Ev (fun k=>f k x) (v x))→ ∃K,∀k,K≤k→ ∀x,x∈l→f k x=some (v x)
 | [],_=>⟨0,fun _ _ x hx=>by cases hx⟩
 |a::l,h=>by
  obtain⟨K1,h1⟩:=h a (List.mem_cons_self ..)
  obtain⟨K2,h2⟩:=ev_all l (fun x hx=>h x (List.mem_cons_of_mem _ hx))
  refine⟨max K1 K2,fun k hk x hx=>?_⟩
  rcases List.mem_cons.1 hx with rfl|hx
  ·exact h1 k (by omega)
  ·exact h2 k (by omega) x hx
theorem ratOf_f{x:S59}(h:u32R x):Ev (fun k=>ratOf k x) (okR x):=progIsRat_f h.1 h.2.1 (by have:=h.2.2.1;omega) (by have:=h.2.2.2;omega) (fun _=>by have:=h.2.2.1;have:=h.2.2.2;omega)
def topV:List Int→Int→Int
 | [],t=>t
 |d::l,t=>topV l (mx t (d+1))
def inR(n:Nat)(x:Int):Bool:=decide (0≤x) && decide (x< (n:Int))
theorem inR_iff{n:Nat}{x:Int} :inR n x=true↔0≤x∧x< (n:Int):=by unfold inR;simp
theorem mx_le{a b c:Int}(h1:a≤c)(h2:b≤c):mx a b≤c:=by unfold mx;split<;>omega
theorem mx_ge{a b:Int} :a≤mx a b:=by unfold mx;split<;>omega
theorem topV_bound{n:Nat} : ∀ (l:List Int) (t:Int),(∀x,x∈l→inR n x=true)→0≤t→t≤n→0≤topV l t∧topV l t≤n
 | [],t,_,h0,h1=>⟨h0,h1⟩
 |d::l,t,h,h0,h1=>by
  have hd:=inR_iff.1 (h d (List.mem_cons_self ..))
  exact topV_bound l (mx t (d+1)) (fun x hx=>h x (List.mem_cons_of_mem _ hx)) (Int.le_trans h0 mx_ge) (mx_le h1 (by omega))
theorem rd_at{q:List Int}{i:Nat}(h:i< q.length):rd q (i:Int)=q[i] :=by unfold rd;rw[Int.toNat_natCast];simp[h]
theorem seeded_l0{q:List Int}(hq:q.length≤4096): ∀d i t,i+d=q.length→0≤t→t≤(q.length:Int)→Ev (fun k=>sparse_seeded.l0 k q t q q.length ((i:Nat):Int)) (if(q.drop i).all (inR q.length)=true then(topV (q.drop i) t,0)else(0,2)):=by
 intro d
 induction d with
 |zero=>
  intro i t hi h0 h1
  refine Ev.step (fun k=>by rw[sparse_seeded.l0]) ?_
  refine Ev.no (by omega) (Ev.is ?_)
  rw[List.drop_eq_nil_of_le (by omega)];rfl
 |succ d ih=>
  intro i t hi h0 h1
  have hl:i< q.length:=by omega
  refine Ev.step (fun k=>by rw[sparse_seeded.l0]) ?_
  rw[rd_at hl,List.drop_eq_getElem_cons hl,List.all_cons,topV]
  generalize q[i] =x
  refine Ev.yes (by omega) (Ev.yes (by omega) (Ev.yes (by omega) ?_))
  by_cases hx0:x< 0
  ·refine Ev.yes hx0 (Ev.is ?_)
   rw[if_neg (by rw[Bool.and_eq_true,inR_iff];omega)]
  ·refine Ev.no hx0 ?_
   by_cases hx1:x≥(q.length:Int)
   ·refine Ev.yes hx1 (Ev.is ?_)
    rw[if_neg (by rw[Bool.and_eq_true,inR_iff];omega)]
   ·refine Ev.no hx1 ?_
    rw[w64 (x+1) (by omega),w64 ((i:Int) +1) (by omega),show inR q.length x=true from inR_iff.2 (by omega),Bool.true_and]
    exact ih (i+1) (mx t (x+1)) (by omega) (Int.le_trans h0 mx_ge) (mx_le h1 (by omega))
def seededV(q:List Int):Int×Int:=if 4096< q.length then(0,3)else if q.all (inR q.length)=true then(topV q 0,0)else(0,2)
theorem seeded_f(q:List Int):Ev (fun k=>sparse_seeded.f k q) (seededV q):=by
 unfold sparse_seeded.f seededV
 by_cases h:4096< q.length
 ·rw[if_pos h];exact Ev.yes (by omega) (Ev.now _)
 ·rw[if_neg h]
  refine Ev.no (by omega) ?_
  have:=seeded_l0 (q:=q) (by omega) q.length 0 0 (by omega) (by omega) (by omega)
  rwa [List.drop_zero]at this
theorem refSeeded_l0{q:List Int}(hq:q.length≤4096): ∀d i,i+d=q.length→Ev (fun k=>fluxionref19_Seeded.l0 k q ((i:Nat):Int)) (if(q.drop i).all (inR q.length)=true then 0 else 2):=by
 intro d
 induction d with
 |zero=>
  intro i hi
  refine Ev.step (fun k=>by rw[fluxionref19_Seeded.l0]) ?_
  refine Ev.no (by omega) (Ev.is ?_)
  rw[List.drop_eq_nil_of_le (by omega)];rfl
 |succ d ih=>
  intro i hi
  have hl:i< q.length:=by omega
  refine Ev.step (fun k=>by rw[fluxionref19_Seeded.l0]) ?_
  rw[rd_at hl,List.drop_eq_getElem_cons hl,List.all_cons]
  generalize q[i] =x
  refine Ev.yes (by omega) (Ev.yes (by omega) ?_)
  by_cases hx0:x< 0
  ·refine Ev.yes hx0 (Ev.is ?_)
   rw[if_neg (by rw[Bool.and_eq_true,inR_iff];omega)]
  ·refine Ev.no hx0 ?_
   by_cases hx1:x≥(q.length:Int)
   ·refine Ev.yes hx1 (Ev.is ?_)
    rw[if_neg (by rw[Bool.and_eq_true,inR_iff];omega)]
   ·refine Ev.no hx1 ?_
    rw[w64 ((i:Int) +1) (by omega),show inR q.length x=true from inR_iff.2 (by omega),Bool.true_and]
    exact ih (i+1) (by omega)
theorem refSeeded_f(q:List Int):Ev (fun k=>fluxionref19_Seeded.f k q) (seededV q).2:=by
 unfold fluxionref19_Seeded.f seededV
 by_cases h:4096< q.length
 ·rw[if_pos h];exact Ev.yes (by omega) (Ev.now _)
 ·rw[if_neg h]
  refine Ev.no (by omega) ?_
  have:=refSeeded_l0 (q:=q) (by omega) q.length 0 (by omega)
  rw[List.drop_zero]at this
  by_cases h2:q.all (inR q.length)=true
  ·rw[if_pos h2]at this ⊢;exact this
  ·rw[if_neg h2]at this ⊢;exact this
theorem refMany_l0{q:List Int}(hq:q.length≤4096)(hb: ∀x,x∈q→inR q.length x=true): ∀d i t,i+d=q.length→Ev (fun k=>fluxionref19_Many.l0 k q t ((i:Nat):Int)) (topV (q.drop i) t):=by
 intro d
 induction d with
 |zero=>
  intro i t hi
  refine Ev.step (fun k=>by rw[fluxionref19_Many.l0]) ?_
  refine Ev.no (by omega) (Ev.is ?_)
  rw[List.drop_eq_nil_of_le (by omega)];rfl
 |succ d ih=>
  intro i t hi
  have hl:i< q.length:=by omega
  have hx:=inR_iff.1 (hb q[i] (List.getElem_mem hl))
  refine Ev.step (fun k=>by rw[fluxionref19_Many.l0]) ?_
  rw[rd_at hl,List.drop_eq_getElem_cons hl,topV,w64 (q[i] +1) (by omega),w64 ((i:Int) +1) (by omega)]
  exact Ev.yes (by omega) (Ev.yes (by omega) (ih (i+1) _ (by omega)))
theorem refMany_f{q:List Int}(hq:q.length≤4096)(hb: ∀x,x∈q→inR q.length x=true):Ev (fun k=>fluxionref19_Many.f k q) (topV q 0):=by
 have:=refMany_l0 hq hb q.length 0 0 (by omega)
 rwa [List.drop_zero]at this
theorem refRat_f{x:S59}(h:u32R x):Ev (fun k=>fluxionref02_IsRat.f k x.f0 x.f1 x.f2 x.f3) (okR x):=refIsRat_f h.1 h.2.1 (by have:=h.2.2.1;omega) (by have:=h.2.2.2;omega)
theorem cutRat_f{x:S59}(h2:u32s x.f2)(h3:u32s x.f3)(room:Int): ∃ (y:S59) (u:Int),fluxionref08_CutRat.f x.f0 x.f1 x.f2 x.f3 room=some (y.f0,y.f1,y.f2,y.f3,u)∧u32R y:=by
 obtain⟨c,hc⟩: ∃c:Int,mn 130 (mx 2 (wrap64 (Int.tdiv room 2)))=c:=⟨_,rfl⟩
 have hc0:2≤c∧c≤130:=by rw[←hc];unfold mn mx;split<;>split<;>omega
 have hm: ∀n:Nat,∃t:Nat,mn (n:Int) c=(t:Int)∧t≤n∧t≤130:=fun n=>by
  by_cases h:c< (n:Int)
  ·exact⟨c.toNat,by unfold mn;rw[if_pos h];omega,by omega,by omega⟩
  ·exact⟨n,by unfold mn;rw[if_neg h],Nat.le_refl _,by omega⟩
 obtain⟨t,ht,ht1,ht2⟩:=hm x.f2.length
 obtain⟨s,hs,hs1,hs2⟩:=hm x.f3.length
 refine⟨⟨x.f0,x.f1,x.f2.take t,x.f3.take s⟩,wrap64 (((x.f2.take t).length:Int) + ((x.f3.take s).length:Int)),?_,u32s_take h2 t,u32s_take h3 s,by show(x.f2.take t).length< _;rw[List.length_take];omega,by show(x.f3.take s).length< _;rw[List.length_take];omega⟩
 unfold fluxionref08_CutRat.f
 rw[hc,ht,hs]
 simp only[Option.bind_some,Int.toNat_natCast,List.nil_append,List.length_nil,Nat.zero_add]
 rw[if_pos (by omega),if_pos (by omega),if_pos (by rw[List.length_take];omega),if_pos (by omega),if_pos (by omega),if_pos (by rw[List.length_take];omega)]
theorem cutRats_l0{l:List S59}(hu: ∀x,x∈l→u32s x.f2∧u32s x.f3){n:Nat}(hn:n≤1000): ∀d i room out,i+d=min l.length n→out.length=i→(∀x,x∈out→u32R x)→ ∃r:List S59,Ev (fun k=>fluxionref11_CutRats.l0 k l (n:Int) room out ((i:Nat):Int)) r∧r.length=min l.length n∧ ∀x,x∈r→u32R x:=by
 intro d
 induction d with
 |zero=>
  intro i room out hi ho hx
  refine⟨out,Ev.step (fun k=>by rw[fluxionref11_CutRats.l0]) ?_,by omega,hx⟩
  by_cases h:i< l.length
  ·exact Ev.yes (by omega) (Ev.no (by omega) (Ev.now _))
  ·exact Ev.no (by omega) (Ev.now _)
 |succ d ih=>
  intro i room out hi ho hx
  have hlt:i< l.length:=by omega
  have ex:rd_T59 l (i:Int)=l[i] :=by unfold rd_T59;rw[Int.toNat_natCast];simp[hlt]
  have h1:=hu l[i] (List.getElem_mem hlt)
  obtain⟨y,u,hy,hyu⟩:=cutRat_f h1.1 h1.2 room
  obtain⟨r,hr,hr1,hr2⟩:=ih (i+1) (wrap64 (room - u)) (out++ [y]) (by omega) (by rw[List.length_append,ho];rfl) (fun x h=>by
   rcases List.mem_append.1 h with h|h
   ·exact hx x h
   ·rw[List.mem_singleton.1 h];exact hyu)
  refine⟨r,Ev.step (fun k=>by rw[fluxionref11_CutRats.l0]) ?_,hr1,hr2⟩
  rw[ex,w64 ((i:Int) +1) (by omega)]
  exact Ev.yes (by omega) (Ev.yes (by omega) (Ev.yes (by omega) (Ev.bind (Ev.con hy) (Ev.yes (by omega) hr))))
theorem cutMatrix_l0{l:List (List S59)}(hu: ∀row,row∈l→ ∀x,x∈row→u32s x.f2∧u32s x.f3){n c:Nat}(hn:n≤1000)(hc:c≤1000): ∀d i out,i+d=min l.length n→out.length=i→(∀row,row∈out→row.length≤c∧ ∀x,x∈row→u32R x)→
  ∃r:List (List S59),Ev (fun k=>fluxionref14_CutMatrix.l0 k l (n:Int) (c:Int) out ((i:Nat):Int)) r∧r.length≤n∧ ∀row,row∈r→row.length≤c∧ ∀x,x∈row→u32R x:=by
 intro d
 induction d with
 |zero=>
  intro i out hi ho hx
  refine⟨out,Ev.step (fun k=>by rw[fluxionref14_CutMatrix.l0]) ?_,by omega,hx⟩
  by_cases h:i< l.length
  ·exact Ev.yes (by omega) (Ev.no (by omega) (Ev.now _))
  ·exact Ev.no (by omega) (Ev.now _)
 |succ d ih=>
  intro i out hi ho hx
  have hlt:i< l.length:=by omega
  have ex:rd_L6 l (i:Int)=l[i] :=by show l.getD (Int.toNat i) [] =_;rw[Int.toNat_natCast];simp[hlt]
  have h1:=hu l[i] (List.getElem_mem hlt)
  obtain⟨y,hy,hy1,hyu⟩:=cutRats_l0 h1 hc (min l[i].length c) 0 60 [] (by omega) rfl (fun x h=>by cases h)
  obtain⟨r,hr,hr1,hr2⟩:=ih (i+1) (out++ [y]) (by omega) (by rw[List.length_append,ho];rfl) (fun row h=>by
   rcases List.mem_append.1 h with h|h
   ·exact hx row h
   ·rw[List.mem_singleton.1 h];exact⟨by omega,hyu⟩)
  refine⟨r,Ev.step (fun k=>by rw[fluxionref14_CutMatrix.l0]) ?_,hr1,hr2⟩
  rw[ex,w64 ((i:Int) +1) (by omega)]
  exact Ev.yes (by omega) (Ev.yes (by omega) (Ev.yes (by omega) (Ev.bind hy (Ev.yes (by omega) hr))))
theorem ints_f(q:List Int):fluxionlaw19_ints.f q=some (q.take 18):=by
 have hm: ∃t:Nat,mn (q.length:Int) 18=(t:Int)∧t≤q.length∧t≤18∧q.take t=q.take 18:=by
  by_cases h:(18:Int)< (q.length:Int)
  ·exact⟨18,by unfold mn;rw[if_pos h];rfl,by omega,by omega,rfl⟩
  ·exact⟨q.length,by unfold mn;rw[if_neg h],Nat.le_refl _,by omega,by rw[List.take_length,List.take_of_length_le (by omega)]⟩
 obtain⟨t,ht,h1,h2,h3⟩:=hm
 unfold fluxionlaw19_ints.f
 rw[ht]
 simp only[Option.bind_some,Int.toNat_natCast,List.nil_append,List.length_nil,Nat.zero_add]
 rw[if_pos (by omega),if_pos (by omega),if_pos (by rw[List.length_take];omega),h3]
def mt(P:List (List Bool))(a b:Nat):Bool:=P.any fun row=>row.getD a false && row.getD b false
def okc(P:List (List Bool))(q:List Int)(i j:Nat):Prop:=q.getD i 0=q.getD j 0→mt P i j=false
def fitP(P:List (List Bool))(q:List Int):Prop:= ∀i j,j< i→i< q.length→okc P q i j
noncomputable instance fitDec (P:List (List Bool)) (q:List Int):Decidable (fitP P q):=Classical.propDecidable _
def formB(P:List (List Bool))(n:Int):Bool:=decide (0≤n) && decide (n≤4096) && P.all fun row=>decide ((row.length:Int)=n)
theorem form_is{P:List (List Bool)}(hP:P.length< 4096)(n:Int):sparse_form.f P n=some (if formB P n=true then 0 else 2):=by
 unfold sparse_form.f formB
 rw[if_neg (by omega)]
 by_cases h0:n< 0
 ·rw[if_pos h0,if_neg (by simp;omega)]
 ·by_cases h1:n >4096
  ·rw[if_neg h0,if_pos h1,if_neg (by simp;omega)]
  ·rw[if_neg h0,if_neg h1]
   by_cases h2:P.any (fun x=>decide (¬ (x.length:Int)=n))=true
   ·rw[if_pos h2,if_neg]
    simp at h2 ⊢
    exact fun _ _=>h2
   ·rw[if_neg h2,if_pos]
    simp at h2 ⊢
    exact⟨⟨by omega,by omega⟩,h2⟩
theorem form_rows{P:List (List Bool)}{n:Nat}(h:formB P n=true): ∀row∈P,row.length=n:=by
 unfold formB at h;simp at h
 intro row hr;have:=h.2 row hr;omega
theorem refForm_l0{P:List (List Bool)}(hP:P.length< 4096)(n:Int): ∀d i,i+d=P.length→Ev (fun k=>fluxionref19_Form.l0 k P n i) (if(P.drop i).all (fun row=>decide ((row.length:Int)=n))=true then 0 else 2)
 |0,i,hi=>by
  refine Ev.step (fun k=>by rw[fluxionref19_Form.l0]) ?_
  refine Ev.no (by omega) (Ev.is ?_)
  rw[List.drop_eq_nil_of_le (by omega)];rfl
 |d+1,i,hi=>by
  have hl:i< P.length:=by omega
  refine Ev.step (fun k=>by rw[fluxionref19_Form.l0]) ?_
  refine Ev.yes (by omega) (Ev.yes (by omega) ?_)
  rw[wnx i (by omega),List.drop_eq_getElem_cons hl,List.all_cons]
  have e:rd_L1 P (i:Int)=P[i] :=by show P.getD i [] =_;simp[List.getD_eq_getElem?_getD,hl]
  rw[e]
  have ih:=refForm_l0 hP n d (i+1) (by omega)
  by_cases h:(P[i].length:Int)=n
  ·refine Ev.yes h ?_
   rw[decide_eq_true h,Bool.true_and];exact ih
  ·refine Ev.no h (Ev.is ?_)
   rw[decide_eq_false h,Bool.false_and];rfl
theorem refForm_is{P:List (List Bool)}(hP:P.length< 4096)(n:Int):Ev (fun k=>fluxionref19_Form.f k P n) (if formB P n=true then 0 else 2):=by
 unfold fluxionref19_Form.f
 refine Ev.no (by omega) ?_
 by_cases h0:n< 0
 ·refine Ev.yes h0 ?_
  refine Ev.step (fun k=>by rw[fluxionref19_Form.j0]) ?_
  refine Ev.yes rfl (Ev.is ?_)
  rw[if_neg];unfold formB;simp;omega
 ·refine Ev.no h0 ?_
  refine Ev.step (fun k=>by rw[fluxionref19_Form.j0]) ?_
  by_cases h1:n >4096
  ·refine Ev.yes (by simp;omega) (Ev.is ?_)
   rw[if_neg];unfold formB;simp;omega
  ·refine Ev.no (by simp;omega) ?_
   have:=refForm_l0 hP n P.length 0 (by omega)
   have e:formB P n=(P.drop 0).all (fun row=>decide ((row.length:Int)=n)):=by unfold formB;rw[List.drop_zero,decide_eq_true (by omega),decide_eq_true (by omega)];rfl
   rw[e];exact this
def cutP(z:List (List Bool)):List (List Bool):=(z.take 14).map fun row=>row.take 16
theorem cutP_length(z:List (List Bool)):(cutP z).length≤14:=by unfold cutP;simp;omega
theorem cut_l0(z:List (List Bool)): ∀d i out,i+d=min z.length 14→out.length=i→Ev (fun k=>fluxionref19_Cut.l0 k z 14 16 out i) (out++ ((z.drop i).take d).map fun row=>row.take 16)
 |0,i,out,hi,ho=>by
  refine Ev.step (fun k=>by rw[fluxionref19_Cut.l0]) ?_
  have e:out++ ((z.drop i).take 0).map (fun row=>row.take 16)=out:=by simp
  rw[e]
  by_cases h:i< z.length
  ·exact Ev.yes (by omega) (Ev.no (by omega) (Ev.now _))
  ·exact Ev.no (by omega) (Ev.now _)
 |d+1,i,out,hi,ho=>by
  have hl:i< z.length:=by omega
  refine Ev.step (fun k=>by rw[fluxionref19_Cut.l0]) ?_
  have e:rd_L1 z (i:Int)=z[i] :=by show z.getD i [] =_;simp[List.getD_eq_getElem?_getD,hl]
  have em:mn (z[i].length:Int) 16=((min z[i].length 16:Nat):Int):=by unfold mn;split<;>omega
  simp only[e,Option.bind_some,List.nil_append,List.length_nil]
  refine Ev.yes (by omega) (Ev.yes (by omega) (Ev.yes (by omega) (Ev.yes (by rw[em];omega) (Ev.yes (by rw[em];omega) (Ev.yes (by rw[em];simp;omega) (Ev.yes (by omega) ?_))))))
  rw[wnx i (by omega),em]
  have et:z[i].take ((min z[i].length 16:Nat):Int).toNat=z[i].take 16:=by
   rw[Int.toNat_natCast,List.take_eq_take_iff];omega
  rw[et,List.drop_eq_getElem_cons hl,List.take_succ_cons,List.map_cons]
  have:=cut_l0 z d (i+1) (out++ [z[i].take 16]) (by omega) (by simp[ho])
  rw[List.append_assoc]at this;exact this
theorem cut_is(z:List (List Bool)):Ev (fun k=>fluxionlaw19_cut.f k z) (cutP z):=by
 unfold fluxionlaw19_cut.f
 refine Ev.bind ?_ (Ev.now _)
 have:=cut_l0 z (min z.length 14) 0 [] (by omega) rfl
 have e:cutP z= [] ++ ((z.drop 0).take (min z.length 14)).map fun row=>row.take 16:=by
  unfold cutP;rw[List.nil_append,List.drop_zero];congr 1;rw[List.take_eq_take_iff];omega
 rw[e];exact this
theorem row_L1{P:List (List Bool)}{i:Nat}(h:i< P.length):rd_L1 P (i:Int)=P[i] :=by show P.getD i [] =_;simp[List.getD_eq_getElem?_getD,h]
theorem mt_drop{P:List (List Bool)}{i:Nat}(h:i< P.length)(a b:Nat):mt (P.drop i) a b=((P[i].getD a false && P[i].getD b false) ||mt (P.drop (i+1)) a b):=by
 unfold mt;rw[List.drop_eq_getElem_cons h,List.any_cons]
theorem meet_l0{P:List (List Bool)}{n:Nat}(hP:P.length< 5000)(hn: ∀row∈P,row.length=n)(a b:Nat)(ha:a< n)(hb:b< n): ∀d i,i+d=P.length→Ev (fun k=>fluxionref19_meet.l0 k P a b i) (mt (P.drop i) a b)
 |0,i,hi=>by
  refine Ev.step (fun k=>by rw[fluxionref19_meet.l0]) ?_
  refine Ev.no (by omega) (Ev.is ?_)
  rw[List.drop_eq_nil_of_le (by omega)];rfl
 |d+1,i,hi=>by
  have hl:i< P.length:=by omega
  have hr:=hn P[i] (List.getElem_mem hl)
  refine Ev.step (fun k=>by rw[fluxionref19_meet.l0]) ?_
  simp only[row_L1 hl]
  refine Ev.yes (by omega) (Ev.yes (by omega) (Ev.yes (by omega) (Ev.yes (by omega) ?_)))
  rw[mt_drop hl,wnx i (by omega)]
  have ih:=meet_l0 hP hn a b ha hb d (i+1) (by omega)
  have e1:rdOf false P[i] (a:Int)=P[i].getD a false:=rfl
  have e2:rdOf false P[i] (b:Int)=P[i].getD b false:=rfl
  by_cases h1:P[i].getD a false=true
  ·refine Ev.yes (e1.trans h1) (Ev.yes (by omega) (Ev.yes (by omega) ?_))
   by_cases h2:P[i].getD b false=true
   ·exact Ev.yes (e2.trans h2) (Ev.is (by rw[h1,h2];rfl))
   ·refine Ev.no (fun h=>h2 (e2.symm.trans h)) ?_
    rw[Bool.not_eq_true]at h2;rw[h1,h2];exact ih
  ·refine Ev.no (fun h=>h1 (e1.symm.trans h)) ?_
   rw[Bool.not_eq_true]at h1;rw[h1];exact ih
theorem meet_f{P:List (List Bool)}{n:Nat}(hP:P.length< 5000)(hn: ∀row∈P,row.length=n)(a b:Nat)(ha:a< n)(hb:b< n):Ev (fun k=>fluxionref19_meet.f k P a b) (mt P a b):=meet_l0 hP hn a b ha hb P.length 0 (by omega)
theorem Fits_l1{P:List (List Bool)}{n:Nat}(hP:P.length< 5000)(hn: ∀row∈P,row.length=n){q:List Int}(hq:q.length≤n)(hs:q.length< 5000){i:Nat}(hi:i< q.length)
  (next:(∀i' j',j'< i'→i'< i+1→okc P q i' j')→Ev (fun k=>fluxionref19_Fits.l0 k P q (i+1:Nat)) (decide (fitP P q)))
  (pre: ∀i' j',j'< i'→i'< i→okc P q i' j'): ∀d j,j+d=i→(∀j',j'< j→okc P q i j')→Ev (fun k=>fluxionref19_Fits.l1 k P q i j) (decide (fitP P q))
 |0,j,hj,hpj=>by
  refine Ev.step (fun k=>by rw[fluxionref19_Fits.l1]) ?_
  refine Ev.no (by omega) ?_
  rw[wnx i (by omega)]
  refine next fun i' j' h1 h2=>?_
  by_cases h3:i'< i
  ·exact pre i' j' h1 h3
  ·have:i'=i:=by omega
   subst this;exact hpj j' (by omega)
 |d+1,j,hj,hpj=>by
  refine Ev.step (fun k=>by rw[fluxionref19_Fits.l1]) ?_
  refine Ev.yes (by omega) (Ev.yes (by omega) (Ev.yes (by omega) (Ev.yes (by omega) (Ev.yes (by omega) ?_))))
  rw[wnx j (by omega)]
  have e1:rd q (i:Int)=q.getD i 0:=rfl
  have e2:rd q (j:Int)=q.getD j 0:=rfl
  have ih:=Fits_l1 hP hn hq hs hi next pre d (j+1) (by omega)
  by_cases h:q.getD i 0=q.getD j 0
  ·refine Ev.yes (by rw[e1,e2,h]) (Ev.bind (meet_f hP hn i j (by omega) (by omega)) ?_)
   cases hm:mt P i j with
   |true=>
    refine Ev.yes rfl (Ev.is (Eq.symm (decide_eq_false fun hf=>?_)))
    have:=hf i j (by omega) hi h
    rw[hm]at this;exact absurd this (by decide)
   |false=>
    refine Ev.no (by decide) (ih fun j' h1=>?_)
    by_cases h2:j'< j
    ·exact hpj j' h2
    ·have:j'=j:=by omega
     subst this;exact fun _=>hm
  ·refine Ev.no (by rw[e1,e2];exact h) (ih fun j' h1=>?_)
   by_cases h2:j'< j
   ·exact hpj j' h2
   ·have:j'=j:=by omega
    subst this;exact fun h'=>absurd h' h
theorem Fits_l0{P:List (List Bool)}{n:Nat}(hP:P.length< 5000)(hn: ∀row∈P,row.length=n){q:List Int}(hq:q.length≤n)(hs:q.length< 5000): ∀d i,i+d=q.length→(∀i' j',j'< i'→i'< i→okc P q i' j')→Ev (fun k=>fluxionref19_Fits.l0 k P q i) (decide (fitP P q))
 |0,i,hi,pre=>by
  refine Ev.step (fun k=>by rw[fluxionref19_Fits.l0]) ?_
  refine Ev.no (by omega) (Ev.is (Eq.symm (decide_eq_true fun i' j' h1 h2=>pre i' j' h1 (by omega))))
 |d+1,i,hi,pre=>by
  refine Ev.step (fun k=>by rw[fluxionref19_Fits.l0]) ?_
  refine Ev.yes (by omega) ?_
  exact Fits_l1 hP hn hq hs (by omega) (fun h=>Fits_l0 hP hn hq hs d (i+1) (by omega) h) pre i 0 (by omega) (fun j' h=>absurd h (Nat.not_lt_zero _))
theorem Fits_f{P:List (List Bool)}{n:Nat}(hP:P.length< 5000)(hn: ∀row∈P,row.length=n){q:List Int}(hq:q.length≤n)(hs:q.length< 5000):Ev (fun k=>fluxionref19_Fits.f k P q) (decide (fitP P q)):=
 Fits_l0 hP hn hq hs q.length 0 (by omega) (fun i' j' _ h=>absurd h (Nat.not_lt_zero _))
theorem fitRows_is{P:List (List Bool)}{n:Nat}(hn: ∀row∈P,row.length=n){cs:List Int}(hc:cs.length=n):(P.all fun row=>fitRow row cs)=decide (fitP P cs):=by
 rw[Bool.eq_iff_iff,decide_eq_true_iff,List.all_eq_true]
 unfold fitRow fitAt seenAt
 constructor
 ·intro h i j hj hi he
  cases hm:mt P i j with
  |false=>rfl
  |true=>
   exfalso
   unfold mt at hm
   rw[List.any_eq_true]at hm
   obtain⟨row,hr,hb⟩:=hm
   have:=h row hr
   rw[List.all_eq_true]at this
   have:=this i (List.mem_range.2 (by rw[hn row hr];omega))
   rw[Bool.and_eq_true]at hb
   rw[hb.1,Bool.true_and,Bool.not_eq_true',List.any_eq_false]at this
   have:=this j (List.mem_range.2 hj)
   rw[hb.2,he]at this;simp at this
 ·intro h row hr
  rw[List.all_eq_true]
  intro i hi
  rw[List.mem_range,hn row hr]at hi
  rw[Bool.not_eq_true',Bool.and_eq_false_iff]
  by_cases h1:row.getD i false=true
  ·right
   rw[List.any_eq_false]
   intro j hj hb
   rw[List.mem_range]at hj
   rw[Bool.and_eq_true,beq_iff_eq]at hb
   have:=h i j hj (by omega) hb.2.symm
   unfold mt at this
   rw[List.any_eq_false]at this
   exact this row hr (by rw[h1,hb.1];rfl)
  ·left;rw[Bool.not_eq_true]at h1;exact h1
def numB(n:Int)(c:List Int):Bool:=decide ((c.length:Int)=n) && c.all fun x=>decide (0≤x)
theorem painted_is(n:Int)(c:List Int):sparse_painted.f n c=some (if numB n c=true then 0 else 2):=by
 unfold sparse_painted.f numB
 by_cases h:(c.length:Int)=n
 ·rw[if_neg (by simpa using h)]
  by_cases h2:c.any (fun x=>decide (x< 0))=true
  ·rw[if_pos h2,if_neg]
   simp at h2 ⊢;exact fun _=>h2
  ·rw[if_neg h2,if_pos]
   simp at h2 ⊢;exact⟨h,h2⟩
 ·rw[if_pos h,if_neg];simp[h]
theorem numbered_l0(n:Int){c:List Int}(hc:c.length< 4096): ∀d i,i+d=c.length→Ev (fun k=>fluxionref19_Numbered.l0 k n c i) ((c.drop i).all (fun x=>decide (0≤x)) && decide ((c.length:Int)=n))
 |0,i,h=>by
  refine Ev.step (fun k=>by rw[fluxionref19_Numbered.l0]) ?_
  refine Ev.no (by omega) (Ev.is ?_)
  rw[List.drop_eq_nil_of_le (by omega)];simp only[List.all_nil,Bool.true_and]
  rw[Bool.eq_iff_iff,beq_iff_eq,decide_eq_true_iff]
 |d+1,i,h=>by
  have hl:i< c.length:=by omega
  refine Ev.step (fun k=>by rw[fluxionref19_Numbered.l0]) ?_
  refine Ev.yes (by omega) (Ev.yes (by omega) ?_)
  have e:rd c (i:Int)=c[i] :=by show c.getD i 0=_;simp[List.getD_eq_getElem?_getD,hl]
  rw[e,wnx i (by omega),List.drop_eq_getElem_cons hl,List.all_cons]
  by_cases h0:c[i] < 0
  ·refine Ev.yes h0 (Ev.is ?_)
   rw[decide_eq_false (show¬0≤c[i]by omega)];rfl
  ·refine Ev.no h0 ?_
   rw[decide_eq_true (show 0≤c[i]by omega),Bool.true_and];exact numbered_l0 n hc d (i+1) (by omega)
theorem numbered_f(n:Int){c:List Int}(hc:c.length< 4096):Ev (fun k=>fluxionref19_Numbered.f k n c) (numB n c):=by
 have:=numbered_l0 n hc c.length 0 (by omega)
 rw[List.drop_zero,Bool.and_comm]at this;exact this
theorem digits_g{x y:List Int}(hs:x.length< 4294967296): ∃b,Ev (fun k=>fluxionref02_digits.f k x y) b∧(b=true↔x=y):=by
 unfold fluxionref02_digits.f
 by_cases hl:x.length=y.length
 ·have h: ∀d i,i+d=x.length→ ∃b,Ev (fun k=>fluxionref02_digits.l0 k x y ((i:Nat):Int)) b∧(b=true↔x.drop i=y.drop i):=by
   intro d
   induction d with
   |zero=>
    intro i hi
    refine⟨true,?_,?_⟩
    ·refine Ev.step (fun k=>by rw[fluxionref02_digits.l0]) ?_
     exact Ev.no (by omega) (Ev.now _)
    ·rw[List.drop_eq_nil_of_le (show x.length≤i by omega),List.drop_eq_nil_of_le (show y.length≤i by omega)]
     simp
   |succ d ih=>
    intro i hi
    have hx:i< x.length:=by omega
    have hy:i< y.length:=by omega
    obtain⟨b,hb,hbe⟩:=ih (i+1) (by omega)
    by_cases hc:x[i] =y[i]
    ·refine⟨b,?_,?_⟩
     ·refine Ev.step (fun k=>by rw[fluxionref02_digits.l0]) ?_
      rw[w64 ((i:Int) +1) (by omega),rd_at hx,rd_at hy]
      exact Ev.yes (by omega) (Ev.yes (by omega) (Ev.yes (by omega) (Ev.yes hc hb)))
     ·rw[hbe,List.drop_eq_getElem_cons hx,List.drop_eq_getElem_cons hy,hc]
      exact⟨fun h=>by rw[h],fun h=>(List.cons.inj h).2⟩
    ·refine⟨false,?_,?_⟩
     ·refine Ev.step (fun k=>by rw[fluxionref02_digits.l0]) ?_
      rw[w64 ((i:Int) +1) (by omega),rd_at hx,rd_at hy]
      exact Ev.yes (by omega) (Ev.yes (by omega) (Ev.yes (by omega) (Ev.no hc (Ev.now _))))
     ·rw[List.drop_eq_getElem_cons hx,List.drop_eq_getElem_cons hy]
      exact⟨fun h=>(by cases h),fun h=>absurd (List.cons.inj h).1 hc⟩
  obtain⟨b,hb,hbe⟩:=h x.length 0 (by omega)
  exact⟨b,Ev.yes (by omega) hb,by simpa using hbe⟩
 ·refine⟨false,Ev.no (by omega) (Ev.now _),?_⟩
  constructor
  ·intro h;cases h
  ·intro h;exact absurd (by rw[h]) hl
theorem equal_g{f g:Int}{p q:Bool}{x a y b:List Int}(hx:x.length< 4294967296)(ha:a.length< 4294967296): ∃r,Ev (fun k=>fluxionref02_Equal.f k f p x a g q y b) r∧(r=true↔f=g∧p=q∧x=y∧a=b):=by
 unfold fluxionref02_Equal.f
 by_cases h1:f=g
 ·by_cases h2:(p==q)=true
  ·obtain⟨r1,e1,i1⟩:=digits_g (y:=y) hx
   obtain⟨r2,e2,i2⟩:=digits_g (y:=b) ha
   have h2':p=q:=by simpa using h2
   cases r1 with
   |true=>exact⟨r2,Ev.yes h1 (Ev.yes h2 (Ev.bind e1 (Ev.yes rfl (Ev.bind e2 (Ev.now _))))),by rw[i2];exact⟨fun h=>⟨h1,h2',i1.1 rfl,h⟩,fun h=>h.2.2.2⟩⟩
   |false=>exact⟨false,Ev.yes h1 (Ev.yes h2 (Ev.bind e1 (Ev.no (by decide) (Ev.now _)))),⟨fun h=>(by cases h),fun h=>by have:=i1.2 h.2.2.1;cases this⟩⟩
  ·exact⟨false,Ev.yes h1 (Ev.no h2 (Ev.now _)),⟨fun h=>(by cases h),fun h=>absurd (by simp[h.2.1]) h2⟩⟩
 ·exact⟨false,Ev.no h1 (Ev.now _),⟨fun h=>(by cases h),fun h=>absurd h.1 h1⟩⟩
theorem sext{x y:S59} :(x.f0=y.f0∧x.f1=y.f1∧x.f2=y.f2∧x.f3=y.f3)↔x=y:=by
 cases x;cases y;simp
theorem numbers_g{l m:List S59}(hs:l.length< 4294967296)(hl: ∀x,x∈l→x.f2.length< 4294967296∧x.f3.length< 4294967296): ∃b,Ev (fun k=>fluxionref11_Numbers.f k l m) b∧(b=true↔l=m):=by
 unfold fluxionref11_Numbers.f
 by_cases hlm:l.length=m.length
 ·have h: ∀d i,i+d=l.length→ ∃b,Ev (fun k=>fluxionref11_Numbers.l0 k l m ((i:Nat):Int)) b∧(b=true↔l.drop i=m.drop i):=by
   intro d
   induction d with
   |zero=>
    intro i hi
    refine⟨true,?_,?_⟩
    ·refine Ev.step (fun k=>by rw[fluxionref11_Numbers.l0]) ?_
     exact Ev.no (by omega) (Ev.now _)
    ·rw[List.drop_eq_nil_of_le (show l.length≤i by omega),List.drop_eq_nil_of_le (show m.length≤i by omega)]
     simp
   |succ d ih=>
    intro i hi
    have hx:i< l.length:=by omega
    have hy:i< m.length:=by omega
    have ex:rd_T59 l (i:Int)=l[i] :=by unfold rd_T59;rw[Int.toNat_natCast];simp[hx]
    have ey:rd_T59 m (i:Int)=m[i] :=by unfold rd_T59;rw[Int.toNat_natCast];simp[hy]
    obtain⟨b,hb,hbe⟩:=ih (i+1) (by omega)
    have hlx:=hl l[i] (List.getElem_mem hx)
    obtain⟨r,er,ir⟩:=equal_g (f:=l[i].f0) (g:=m[i].f0) (p:=l[i].f1) (q:=m[i].f1) (y:=m[i].f2) (b:=m[i].f3) hlx.1 hlx.2
    rw[sext]at ir
    cases r with
    |true=>
     refine⟨b,?_,?_⟩
     ·refine Ev.step (fun k=>by rw[fluxionref11_Numbers.l0]) ?_
      rw[ex,ey,w64 ((i:Int) +1) (by omega)]
      exact Ev.yes (by omega) (Ev.yes (by omega) (Ev.yes (by omega) (Ev.bind er (Ev.yes rfl hb))))
     ·rw[hbe,List.drop_eq_getElem_cons hx,List.drop_eq_getElem_cons hy,ir.1 rfl]
      exact⟨fun h=>by rw[h],fun h=>(List.cons.inj h).2⟩
    |false=>
     refine⟨false,?_,?_⟩
     ·refine Ev.step (fun k=>by rw[fluxionref11_Numbers.l0]) ?_
      rw[ex,ey,w64 ((i:Int) +1) (by omega)]
      exact Ev.yes (by omega) (Ev.yes (by omega) (Ev.yes (by omega) (Ev.bind er (Ev.no (by decide) (Ev.now _)))))
     ·rw[List.drop_eq_getElem_cons hx,List.drop_eq_getElem_cons hy]
      exact⟨fun h=>(by cases h),fun h=>by have:=ir.2 (List.cons.inj h).1;cases this⟩
  obtain⟨b,hb,hbe⟩:=h l.length 0 (by omega)
  exact⟨b,Ev.yes (by omega) hb,by simpa using hbe⟩
 ·refine⟨false,Ev.no (by omega) (Ev.now _),?_⟩
  constructor
  ·intro h;cases h
  ·intro h;exact absurd (by rw[h]) hlm
theorem same_g{l m:List (List S59)}(hs:l.length< 4294967296)(hl: ∀row,row∈l→row.length< 4294967296∧ ∀x,x∈row→x.f2.length< 4294967296∧x.f3.length< 4294967296): ∃b,Ev (fun k=>fluxionref14_Same.f k l m) b∧(b=true↔l=m):=by
 unfold fluxionref14_Same.f
 by_cases hlm:l.length=m.length
 ·have h: ∀d i,i+d=l.length→ ∃b,Ev (fun k=>fluxionref14_Same.l0 k l m ((i:Nat):Int)) b∧(b=true↔l.drop i=m.drop i):=by
   intro d
   induction d with
   |zero=>
    intro i hi
    refine⟨true,?_,?_⟩
    ·refine Ev.step (fun k=>by rw[fluxionref14_Same.l0]) ?_
     exact Ev.no (by omega) (Ev.now _)
    ·rw[List.drop_eq_nil_of_le (show l.length≤i by omega),List.drop_eq_nil_of_le (show m.length≤i by omega)]
     simp
   |succ d ih=>
    intro i hi
    have hx:i< l.length:=by omega
    have hy:i< m.length:=by omega
    have ex:rd_L6 l (i:Int)=l[i] :=by show l.getD (Int.toNat i) [] =_;rw[Int.toNat_natCast];simp[hx]
    have ey:rd_L6 m (i:Int)=m[i] :=by show m.getD (Int.toNat i) [] =_;rw[Int.toNat_natCast];simp[hy]
    obtain⟨b,hb,hbe⟩:=ih (i+1) (by omega)
    have hlx:=hl l[i] (List.getElem_mem hx)
    obtain⟨r,er,ir⟩:=numbers_g (m:=m[i]) hlx.1 hlx.2
    cases r with
    |true=>
     refine⟨b,?_,?_⟩
     ·refine Ev.step (fun k=>by rw[fluxionref14_Same.l0]) ?_
      rw[ex,ey,w64 ((i:Int) +1) (by omega)]
      exact Ev.yes (by omega) (Ev.yes (by omega) (Ev.yes (by omega) (Ev.bind er (Ev.yes rfl hb))))
     ·rw[hbe,List.drop_eq_getElem_cons hx,List.drop_eq_getElem_cons hy,ir.1 rfl]
      exact⟨fun h=>by rw[h],fun h=>(List.cons.inj h).2⟩
    |false=>
     refine⟨false,?_,?_⟩
     ·refine Ev.step (fun k=>by rw[fluxionref14_Same.l0]) ?_
      rw[ex,ey,w64 ((i:Int) +1) (by omega)]
      exact Ev.yes (by omega) (Ev.yes (by omega) (Ev.yes (by omega) (Ev.bind er (Ev.no (by decide) (Ev.now _)))))
     ·rw[List.drop_eq_getElem_cons hx,List.drop_eq_getElem_cons hy]
      exact⟨fun h=>(by cases h),fun h=>by have:=ir.2 (List.cons.inj h).1;cases this⟩
  obtain⟨b,hb,hbe⟩:=h l.length 0 (by omega)
  exact⟨b,Ev.yes (by omega) hb,by simpa using hbe⟩
 ·refine⟨false,Ev.no (by omega) (Ev.now _),?_⟩
  constructor
  ·intro h;cases h
  ·intro h;exact absurd (by rw[h]) hlm
theorem getD_at{α:Type}{l:List α}{i:Nat}{d:α}(h:i< l.length):l.getD i d=l[i] :=by rw[List.getD_eq_getElem?_getD,List.getElem?_eq_getElem h];rfl
theorem val_pos{x:List Int}(h:canon x)(hx:x≠ []):valN x≠0:=fun e=>hx (by rw[←digN_val h,e];simp[digN])
theorem plusZ_left{r:RatV}(hr:validR r)(hf:r.1=0):plusR (0,false,[],[1]) r=r:=by
 obtain⟨f,p,x,a⟩:=r
 have hf:f=0:=hf
 subst hf
 obtain⟨cx,ca,_,_,_,hp,_⟩:=isRat_zero_parts (p:=p) (x:=x) (a:=a) hr.1 hr.2.1 hr.2.2
 have hS:signedR false 0 p (valN x)=(p,valN x):=by
  unfold signedR
  cases p with
  |false=>simp
  |true=>
   have:=val_pos cx (hp rfl)
   rw[if_neg (by decide),if_neg (by omega)]
   simp
 unfold plusR addR
 rw[if_pos (show leastR 0 0=0 from rfl)]
 show ratioR (signedR false (valN [] * valN a) p (valN x * valN [1])).1 (signedR false (valN [] * valN a) p (valN x * valN [1])).2 (valN [1] * valN a)=_
 rw[val_one,val_nilN,Nat.mul_one,Nat.one_mul,Nat.zero_mul,hS]
 exact ratioR_self hr.1 hr.2.1 hr.2.2
theorem zero_rat{r:RatV}(hr:validR r)(hf:r.1=0)(hx:r.2.2.1= []):r=(0,false,[],[1]):=by
 obtain⟨f,p,x,a⟩:=r
 have hf:f=0:=hf
 have hx:x= [] :=hx
 subst hf hx
 obtain⟨_,ca,_,_,_,hp,hg⟩:=isRat_zero_parts (p:=p) (x:= []) (a:=a) hr.1 hr.2.1 hr.2.2
 have hp:p=false:=by
  cases p with
  |false=>rfl
  |true=>exact absurd rfl (hp rfl)
 rw[val_nilN,Nat.gcd_zero_left]at hg
 have ha:a= [1] :=by rw[←digN_val ca,hg];exact digN_one
 rw[hp,ha]
def zS:S59:=sv (0,false,[],[1])
def outAt(fr:List S59)(row:List Bool)(c:List Int)(j:Nat):S59:=if row.getD j false=true then fr.getD (c.getD j 0).toNat dRat else zS
def outL(fr:List S59)(row:List Bool)(c:List Int)(n:Nat):List S59:=(List.range n).map (outAt fr row c)
theorem outL_len(fr:List S59)(row:List Bool)(c:List Int)(n:Nat):(outL fr row c n).length=n:=by unfold outL;simp
theorem outL_succ(fr:List S59)(row:List Bool)(c:List Int)(n:Nat):outL fr row c n++ [outAt fr row c n] =outL fr row c (n+1):=by unfold outL;rw[List.range_succ,List.map_append];rfl
theorem outL_get{fr:List S59}{row:List Bool}{c:List Int}{n j:Nat}(h:j< (outL fr row c n).length):(outL fr row c n)[j] =outAt fr row c j:=by
 have h':j< n:=by rw[outL_len]at h;exact h
 have e:(outL fr row c n)[j]? =some (outAt fr row c j):=by unfold outL;rw[List.getElem?_map,List.getElem?_range h'];rfl
 rw[List.getElem?_eq_getElem h]at e
 exact Option.some.inj e
def goodRow(m:Nat)(fr:List S59):Prop:=fr.length=m∧ ∀x,x∈fr→validR (rv x)∧x.f0=0
theorem zS_valid:validR (rv zS)∧zS.f0=0:=⟨valid_zero,rfl⟩
theorem outAt_valid{m:Nat}{fr:List S59}(hf:goodRow m fr){row:List Bool}{c:List Int}{j:Nat}(hc:0≤c.getD j 0∧c.getD j 0< (m:Int)):validR (rv (outAt fr row c j))∧(outAt fr row c j).f0=0:=by
 unfold outAt
 by_cases h:row.getD j false=true
 ·rw[if_pos h]
  have hl:(c.getD j 0).toNat< fr.length:=by rw[hf.1];omega
  have e:fr.getD (c.getD j 0).toNat dRat=fr[(c.getD j 0).toNat] :=getD_at hl
  rw[e]
  exact hf.2 _ (List.getElem_mem hl)
 ·rw[if_neg h]
  exact zS_valid
def accV(fr:List S59)(row:List Bool)(c:List Int)(t j:Nat):RatV:=if seenAt row c j (t:Int)=true then rv (fr.getD t dRat)else(0,false,[],[1])
theorem sum_out{m:Nat}{fr:List S59}(hf:goodRow m fr){row:List Bool}{c:List Int}(hl:row.length=c.length)(hc: ∀x,x∈c→inR m x=true)(hfit:fitRow row c=true){t:Nat}(ht:t< m):
  ∀d j,j+d=c.length→sumV (t:Int) (c.drop j) ((outL fr row c c.length).drop j) (accV fr row c t j)=accV fr row c t c.length:=by
 intro d
 induction d with
 |zero=>
  intro j hj
  have:j=c.length:=by omega
  subst this
  rw[List.drop_length]
  rfl
 |succ d ih=>
  intro j hj
  have hjc:j< c.length:=by omega
  have hjo:j< (outL fr row c c.length).length:=by rw[outL_len];exact hjc
  have hcj:c.getD j 0=c[j] :=getD_at hjc
  have hin:=inR_iff.1 (hc _ (List.getElem_mem hjc))
  have hv:=outAt_valid hf (row:=row) (c:=c) (j:=j) (by rw[hcj];exact hin)
  have hft:validR (rv (fr.getD t dRat))∧(fr.getD t dRat).f0=0:=by
   have hl:t< fr.length:=by rw[hf.1];exact ht
   have e:fr.getD t dRat=fr[t] :=getD_at hl
   rw[e]
   exact hf.2 _ (List.getElem_mem hl)
  rw[List.drop_eq_getElem_cons hjc,List.drop_eq_getElem_cons hjo,outL_get,sumV,←ih (j+1) (by omega)]
  congr 1
  have hs:=seenAt_succ row c j (t:Int)
  have hfa:=List.all_eq_true.1 hfit j (List.mem_range.2 (by omega))
  unfold fitAt at hfa
  by_cases e:c[j] =(t:Int)
  ·rw[if_pos (Or.inl e)]
   by_cases hb:row.getD j false=true
   ·have hns:seenAt row c j (t:Int)=false:=by
     rw[hcj,e,hb]at hfa
     simpa using hfa
    have h1:accV fr row c t j=(0,false,[],[1]):=by unfold accV;rw[if_neg (by rw[hns];decide)]
    have h2:accV fr row c t (j+1)=rv (fr.getD t dRat):=by unfold accV;rw[if_pos (by rw[hs,hcj,e,hb];simp)]
    have h3:outAt fr row c j=fr.getD t dRat:=by unfold outAt;rw[if_pos hb,hcj,e,Int.toNat_natCast]
    rw[h1,h2,h3]
    exact plusZ_left hft.1 hft.2
   ·have h2:accV fr row c t (j+1)=accV fr row c t j:=by
     have hb':row.getD j false=false:=by simpa using hb
     unfold accV;rw[hs,hb'];simp
    have h3:outAt fr row c j=zS:=by unfold outAt;rw[if_neg hb]
    rw[h2,h3]
    have hva:validR (accV fr row c t j):=by unfold accV;split;exact hft.1;exact valid_zero
    exact plusR_zero hva
  ·rw[if_neg (by intro h;rcases h with h|h;exact e h;exact h hv.2)]
   unfold accV
   rw[hs,hcj,beq_eq_false_iff_ne.2 e]
   simp
theorem rowV_eq(l1:List Int)(row:List S59): ∀n c acc,rowV l1 row n c acc=acc++ (List.range n).map (fun t=>sv (sumV ((c+t:Nat):Int) l1 row (0,false,[],[1])))
 |0,c,acc=>by simp[rowV]
 |n+1,c,acc=>by
  rw[rowV,rowV_eq l1 row n (c+1),List.range_succ_eq_map,List.map_cons,List.map_map,List.append_assoc]
  congr 1
  show _::_=_::_
  congr 1
  apply List.map_congr_left
  intro t _
  show sv (sumV ((c+1+t:Nat):Int) l1 row _)=sv (sumV ((c+ (t+1):Nat):Int) l1 row _)
  rw[show c+1+t=c+ (t+1)by omega]
theorem rowsV_eq(l1:List Int)(m:Nat): ∀l acc,rowsV l1 m l acc=acc++l.map (fun row=>rowV l1 row m 0 [])
 | [],acc=>by simp[rowsV]
 |row::l,acc=>by rw[rowsV,rowsV_eq l1 m l];simp
theorem sv_rv(x:S59):sv (rv x)=x:=by cases x;rfl
theorem leftB_none'{fr:List S59}{row:List Bool}{c:List Int}(h: ∀t:Nat,t< fr.length→leftK fr row c row.length (t:Int)=false):leftB fr row c=false:=by
 unfold leftB
 exact List.any_eq_false.2 (fun t ht=>by rw[h t (List.mem_range.1 ht)];decide)
theorem leftB_at{fr:List S59}{row:List Bool}{c:List Int}(h:leftB fr row c=false){t:Nat}(ht:t< fr.length):leftK fr row c row.length (t:Int)=false:=by
 unfold leftB at h
 have:=List.any_eq_false.1 h t (List.mem_range.2 ht)
 simpa using this
theorem row_same{m:Nat}(hm:m≤4096){fr:List S59}(hf:goodRow m fr){row:List Bool}{c:List Int}(hl:row.length=c.length)(hc: ∀x,x∈c→inR m x=true)(hfit:fitRow row c=true):rowV c (outL fr row c c.length) m 0 [] =fr↔leftB fr row c=false:=by
 have hsum: ∀t,t< m→sumV (t:Int) c (outL fr row c c.length) (0,false,[],[1])=accV fr row c t c.length:=by
  intro t ht
  have h:=sum_out hf hl hc hfit ht c.length 0 (by omega)
  rw[List.drop_zero,List.drop_zero]at h
  have e:accV fr row c t 0=(0,false,[],[1]):=by unfold accV seenAt;simp
  rw[←h,e]
 have hrow:rowV c (outL fr row c c.length) m 0 [] =(List.range m).map (fun t=>sv (accV fr row c t c.length)):=by
  rw[rowV_eq,List.nil_append]
  apply List.map_congr_left
  intro t ht
  rw[Nat.zero_add,hsum t (List.mem_range.1 ht)]
 rw[hrow]
 have hcell: ∀t,(ht:t< m)→(sv (accV fr row c t c.length)=fr.getD t dRat↔leftK fr row c row.length (t:Int)=false):=by
  intro t ht
  have hlt:t< fr.length:=by rw[hf.1];exact ht
  have eg:fr.getD t dRat=fr[t] :=getD_at hlt
  have hv:=hf.2 _ (List.getElem_mem hlt)
  rw[←eg]at hv
  unfold leftK leftN
  rw[hl,decide_eq_true (show(0:Int)≤(t:Int)by omega),decide_eq_true (show(t:Int)< (fr.length:Int)by omega),Int.toNat_natCast]
  cases hs:seenAt row c c.length (t:Int)with
  |true=>
   have:accV fr row c t c.length=rv (fr.getD t dRat):=by unfold accV;rw[if_pos hs]
   rw[this,sv_rv]
   simp
  |false=>
   have:accV fr row c t c.length=(0,false,[],[1]):=by unfold accV;rw[if_neg (by rw[hs];decide)]
   rw[this]
   constructor
   ·intro h
    rw[←h]
    rfl
   ·intro h
    have hz:(fr.getD t dRat).f2= [] :=by
     have h': ¬0< (fr.getD t dRat).f2.length:=by simpa using h
     exact List.eq_nil_of_length_eq_zero (by omega)
    have:=zero_rat hv.1 hv.2 hz
    rw[←this,sv_rv]
 constructor
 ·intro h
  refine leftB_none' (fun t ht=>(hcell t (by rw[←hf.1];exact ht)).1 ?_)
  have hlt:t< fr.length:=ht
  have h2:((List.range m).map (fun t=>sv (accV fr row c t c.length)))[t]? =fr[t]?:=by rw[h]
  rw[List.getElem?_map,List.getElem?_range (by rw[←hf.1];exact ht)]at h2
  simp only[Option.map_some]at h2
  rw[List.getD_eq_getElem?_getD,←h2]
  rfl
 ·intro h
  apply List.ext_getElem
  ·simp[hf.1]
  ·intro t h1 h2
   have ht:t< m:=by simpa using h1
   rw[List.getElem_map,List.getElem_range,(hcell t ht).2 (leftB_at h (by rw[hf.1];exact ht))]
   exact getD_at h2
theorem good_cloned{m:Nat}{fr:List S59}(hf:goodRow m fr){x:S59}(hx:x∈fr):cloned x=true:=by
 have h:=valid_len (hf.2 x hx).1
 unfold cloned
 simp only[Bool.and_eq_true,decide_eq_true_eq]
 have h1:x.f2.length≤1000:=h.1
 have h2:x.f3.length≤1000:=h.2
 omega
theorem spreadRow_f{m:Nat}{fr:List S59}(hf:goodRow m fr){row:List Bool}{c:List Int}(hl:row.length=c.length)(hc: ∀x,x∈c→inR m x=true):
  ∀d j,j+d=row.length→Ev (fun k=>spreadRow k c fr (row.drop j) j (outL fr row c j)) (outL fr row c c.length):=by
 intro d
 induction d with
 |zero=>
  intro j hj
  have:j=row.length:=by omega
  subst this
  rw[List.drop_length,←hl]
  exact Ev.con rfl
 |succ d ih=>
  intro j hj
  have hjr:j< row.length:=by omega
  have hjc:j< c.length:=by omega
  have hcj:c.getD j 0=c[j] :=getD_at hjc
  have hin:=inR_iff.1 (hc _ (List.getElem_mem hjc))
  have hrj:row.getD j false=row[j] :=getD_at hjr
  have h0:=wholeN_f (n:=0) (by decide)
  rw[ratioR_zero1]at h0
  rw[List.drop_eq_getElem_cons hjr]
  unfold spreadRow
  refine Ev.bind h0 ?_
  have hnext:=ih (j+1) (by omega)
  rw[←outL_succ]at hnext
  unfold outAt at hnext
  rw[hrj]at hnext
  by_cases hb:row[j] =true
  ·rw[if_pos hb]at hnext
   have hlt:(c[j]).toNat< fr.length:=by rw[hf.1];omega
   refine Ev.yes hb (Ev.yes ⟨by rw[hcj];exact hin.1,by rw[hcj,hf.1];exact hin.2,?_⟩ hnext)
   rw[hcj,getD_at hlt]
   exact good_cloned hf (List.getElem_mem hlt)
  ·rw[if_neg hb]at hnext
   exact Ev.no hb hnext
def spreadV(c:List Int)(ps:List (List Bool))(fs:List (List S59)):List (List S59):=List.zipWith (fun row fr=>outL fr row c c.length) ps fs
def leftV(c:List Int)(ps:List (List Bool))(fs:List (List S59)):Bool:=(ps.zip fs).any fun x=>leftB x.2 x.1 c
theorem spreadRows_f{m:Nat}(hm:m≤4096){c:List Int}(hc: ∀x,x∈c→inR m x=true): ∀ (ps:List (List Bool)) (fs:List (List S59)) acc,ps.length=fs.length→(∀row,row∈ps→row.length=c.length)→(∀fr,fr∈fs→goodRow m fr)→
  Ev (fun k=>spreadRows k c ps fs acc) (if leftV c ps fs=true then([],10)else(acc++spreadV c ps fs,0))
 | [],fs,acc,_,_,_=>by
  unfold leftV spreadV
  simp only[List.zip_nil_left,List.any_nil,List.zipWith_nil_left,List.append_nil]
  exact Ev.con rfl
 |row::ps,[],acc,h,_,_=>by simp at h
 |row::ps,fr::fs,acc,h,hr,hf=>by
  have hrow:=hr row (List.mem_cons_self ..)
  have hfr:=hf fr (List.mem_cons_self ..)
  have hR:=spreadRow_f hfr hrow hc row.length 0 (by omega)
  rw[List.drop_zero]at hR
  unfold spreadRows
  have e0:outL fr row c 0= [] :=rfl
  rw[e0]at hR
  refine Ev.yes ⟨by rw[hfr.1];exact hm,hrow⟩ (Ev.bind hR ?_)
  have ih:=spreadRows_f hm hc ps fs (acc++ [outL fr row c c.length]) (by simpa using h) (fun r hh=>hr r (List.mem_cons_of_mem _ hh)) (fun r hh=>hf r (List.mem_cons_of_mem _ hh))
  by_cases hlb:leftB fr row c=true
  ·have e:leftV c (row::ps) (fr::fs)=true:=by unfold leftV;rw[List.zip_cons_cons,List.any_cons,hlb];rfl
   rw[if_pos e]
   exact Ev.yes hlb (Ev.now _)
  ·have e:leftV c (row::ps) (fr::fs)=leftV c ps fs:=by
    have hlb':leftB fr row c=false:=by simpa using hlb
    unfold leftV;rw[List.zip_cons_cons,List.any_cons,hlb'];rfl
   have e2:acc++spreadV c (row::ps) (fr::fs)=acc++ [outL fr row c c.length] ++spreadV c ps fs:=by unfold spreadV;rw[List.zipWith_cons_cons,List.append_assoc];rfl
   rw[e,e2]
   exact Ev.no hlb ih
theorem all_same{m:Nat}(hm:m≤4096){c:List Int}(hc: ∀x,x∈c→inR m x=true): ∀ (ps:List (List Bool)) (fs:List (List S59)),ps.length=fs.length→(∀row,row∈ps→row.length=c.length)→(∀row,row∈ps→fitRow row c=true)→(∀fr,fr∈fs→goodRow m fr)→
  ((spreadV c ps fs).map (fun row=>rowV c row m 0 [])=fs↔leftV c ps fs=false)
 | [],[],_,_,_,_=>by unfold spreadV leftV;simp
 | [],_::_,h,_,_,_=>by simp at h
 |_::_,[],h,_,_,_=>by simp at h
 |row::ps,fr::fs,h,hr,hfi,hf=>by
  have ih:=all_same hm hc ps fs (by simpa using h) (fun r hh=>hr r (List.mem_cons_of_mem _ hh)) (fun r hh=>hfi r (List.mem_cons_of_mem _ hh)) (fun r hh=>hf r (List.mem_cons_of_mem _ hh))
  have h1:=row_same hm (hf fr (List.mem_cons_self ..)) (hr row (List.mem_cons_self ..)) hc (hfi row (List.mem_cons_self ..))
  have e:leftV c (row::ps) (fr::fs)=(leftB fr row c||leftV c ps fs):=by unfold leftV;rw[List.zip_cons_cons,List.any_cons]
  have e2:(spreadV c (row::ps) (fr::fs)).map (fun row=>rowV c row m 0 [])=rowV c (outL fr row c c.length) m 0 [] ::(spreadV c ps fs).map (fun row=>rowV c row m 0 []):=by unfold spreadV;rw[List.zipWith_cons_cons,List.map_cons]
  rw[e,e2,Bool.or_eq_false_iff,←h1,←ih]
  exact⟨fun h=>List.cons.inj h,fun h=>by rw[h.1,h.2]⟩
theorem progSpread_form{P:List (List Bool)}(hP:P.length< 4096){c:List Int}(M:List (List S59))(h: ¬formB P (c.length:Int)=true):Ev (fun k=>sparse_Spread.f k P c M) ([],2):=by
 unfold sparse_Spread.f
 have hf:=form_is hP (c.length:Int)
 rw[if_neg h]at hf
 exact Ev.bind (Ev.con hf) (Ev.bind (Ev.con (by simp)) (Ev.yes (by decide) (Ev.now _)))
theorem progSpread_num{P:List (List Bool)}(hP:P.length< 4096){c:List Int}(M:List (List S59))(h:formB P (c.length:Int)=true)(hn: ¬numB (c.length:Int) c=true):Ev (fun k=>sparse_Spread.f k P c M) ([],2):=by
 unfold sparse_Spread.f
 have hf:=form_is hP (c.length:Int)
 rw[if_pos h]at hf
 have hp:=painted_is (c.length:Int) c
 rw[if_neg hn]at hp
 exact Ev.bind (Ev.con hf) (Ev.bind (Ev.con (by rw[if_pos rfl];exact hp)) (Ev.yes (by decide) (Ev.now _)))
theorem progSpread_to{P:List (List Bool)}(hP:P.length< 4096){c:List Int}(hw:wfInts c=true){M:List (List S59)}(h:formB P (c.length:Int)=true)(hn:numB (c.length:Int) c=true){R:List (List S59)×Int}
  (fin:Ev (fun k=>if(P.all fun row=>fitRow row c)=false then some ([],9)else(sparse_seeded.f k c).bind fun s=>if¬s.2=0 then some ([],2)else if¬ (M.length:Int)=(P.length:Int)then some ([],2)else if M.any (fun row=>decide (¬ (row.length:Int)=s.1))=true then some ([],2)else
   if M.all (fun row=>row.all (fun x=>(ratOf k x).isSome))=true∧wfInts c=true then(if M.any (badR k)=true then some ([],5)else spreadRows k c P M [])else none) R):Ev (fun k=>sparse_Spread.f k P c M) R:=by
 unfold sparse_Spread.f
 have hf:=form_is hP (c.length:Int)
 rw[if_pos h]at hf
 have hp:=painted_is (c.length:Int) c
 rw[if_pos hn]at hp
 have hrows:=form_rows h
 have hfit:sparse_fits.f P c=some (P.all fun row=>fitRow row c):=by
  unfold sparse_fits.f
  rw[if_pos]
  rw[hw,Bool.true_and]
  exact List.all_eq_true.2 (fun row hr=>by rw[hrows row hr];simp)
 exact Ev.bind (Ev.con hf) (Ev.bind (Ev.con (by rw[if_pos rfl];exact hp)) (Ev.no (by simp) (Ev.bind (Ev.con hfit) fin)))
theorem any_congr'{α:Type}{f g:α→Bool} : ∀ {l:List α},(∀x,x∈l→f x=g x)→l.any f=l.any g
 | [],_=>rfl
 |a::l,h=>by rw[List.any_cons,List.any_cons,h a (List.mem_cons_self ..),any_congr' (fun x hx=>h x (List.mem_cons_of_mem _ hx))]
def goodX(x:S59):Bool:=okR x && decide (x.f0=0)
theorem progSpread_mid{c:List Int}(hw:wfInts c=true){P:List (List Bool)}{M:List (List S59)}(hu: ∀row,row∈M→ ∀x,x∈row→u32R x){R:List (List S59)×Int}
  (fin:Ev (fun k=>if M.any (fun row=>row.any fun x=>!goodX x)=true then some ([],5)else spreadRows k c P M []) R):
  Ev (fun k=>if M.all (fun row=>row.all (fun x=>(ratOf k x).isSome))=true∧wfInts c=true then(if M.any (badR k)=true then some ([],5)else spreadRows k c P M [])else none) R:=by
 obtain⟨K,hK⟩:=ev_all (f:=fun k x=>ratOf k x) (v:=okR) M.flatten (fun x hx=>by
  obtain⟨row,hr,hx⟩:=List.mem_flatten.1 hx
  exact ratOf_f (hu row hr x hx))
 obtain⟨K2,hK2⟩:=fin
 refine⟨max K K2,fun k hk=>?_⟩
 have hv: ∀row,row∈M→ ∀x,x∈row→ratOf k x=some (okR x):=fun row hr x hx=>hK k (by omega) x (List.mem_flatten.2 ⟨row,hr,hx⟩)
 have h1:M.all (fun row=>row.all (fun x=>(ratOf k x).isSome))=true:=List.all_eq_true.2 (fun row hr=>List.all_eq_true.2 (fun x hx=>by rw[hv row hr x hx];rfl))
 have h2:M.any (badR k)=M.any (fun row=>row.any fun x=>!goodX x):=by
  apply any_congr'
  intro row hr
  unfold badR
  apply any_congr'
  intro x hx
  unfold badS goodX
  rw[hv row hr x hx]
  cases okR x<;>by_cases h0:x.f0=0<;>simp[h0]
 show(if M.all (fun row=>row.all (fun x=>(ratOf k x).isSome))=true∧wfInts c=true then(if M.any (badR k)=true then some ([],5)else spreadRows k c P M [])else none)=some R
 rw[if_pos ⟨h1,hw⟩,h2]
 exact hK2 k (by omega)
theorem rowL1_at{P:List (List Bool)}{i:Nat}(h:i< P.length):rd_L1 P (i:Int)=P[i] :=row_L1 h
theorem rowRDL{M:List (List S59)}{i:Nat}(h:i< M.length):rd_L6 M (i:Int)=M[i] :=by show M.getD (Int.toNat i) [] =_;rw[Int.toNat_natCast];exact getD_at h
theorem rdT_at{l:List S59}{i:Nat}(h:i< l.length):rd_T59 l (i:Int)=l[i] :=by unfold rd_T59;rw[Int.toNat_natCast];exact getD_at h
theorem refSpread_l1{P:List (List Bool)}{c:List Int}{M:List (List S59)}{m:Nat}(hP:P.length< 5000)(hlen:M.length=P.length)(hr: ∀row,row∈P→row.length=c.length)(hcl:c.length< 5000)(hf: ∀fr,fr∈M→goodRow m fr)(hm:m≤4096)(hc: ∀x,x∈c→inR m x=true)
  {i:Nat} (hi:i< P.length) {o:List (List S59)} (ho:o.length< 5000) {R:List (List S59)×Bool} (fin:Ev (fun k=>fluxionref19_Spread.l0 k P c M (o++ [outL (M[i]'(by omega)) P[i] c c.length]) ((i+1:Nat):Int)) R):
  ∀d j,j+d=c.length→Ev (fun k=>fluxionref19_Spread.l1 k P c M o (i:Int) (outL (M[i]'(by omega)) P[i] c j) (j:Int)) R:=by
 have hiM:i< M.length:=by omega
 have hrow:=hr P[i] (List.getElem_mem hi)
 have hfr:=hf M[i] (List.getElem_mem hiM)
 intro d
 induction d with
 |zero=>
  intro j hj
  have:j=c.length:=by omega
  subst this
  refine Ev.step (fun k=>by rw[fluxionref19_Spread.l1]) ?_
  rw[w64 ((i:Int) +1) (by omega)]
  exact Ev.no (by omega) (Ev.yes (by omega) fin)
 |succ d ih=>
  intro j hj
  have hjc:j< c.length:=by omega
  have hjr:j< P[i].length:=by omega
  have hin:=inR_iff.1 (hc _ (List.getElem_mem hjc))
  have hnext:=ih (j+1) (by omega)
  rw[←outL_succ]at hnext
  unfold outAt at hnext
  have hrj:P[i].getD j false=P[i][j] :=getD_at hjr
  have hcj:c.getD j 0=c[j] :=getD_at hjc
  rw[hrj,hcj]at hnext
  have hol:(outL M[i] P[i] c j).length=j:=outL_len _ _ _ _
  refine Ev.step (fun k=>by rw[fluxionref19_Spread.l1]) ?_
  have e1:rdOf false (rd_L1 P (i:Int)) (j:Int)=P[i][j] :=by rw[rowL1_at hi];unfold rdOf;rw[Int.toNat_natCast];exact getD_at hjr
  rw[w64 ((j:Int) +1) (by omega),e1,rowL1_at hi,rd_at hjc,rowRDL hiM]
  by_cases hb:P[i][j] =true
  ·rw[if_pos hb]at hnext
   have hlt:(c[j]).toNat< M[i].length:=by rw[hfr.1];omega
   have e2:rd_T59 M[i] c[j] =M[i].getD (c[j]).toNat dRat:=by
    have:=rdT_at hlt
    rw[show(((c[j]).toNat:Nat):Int)=c[j]by omega]at this
    rw[this,getD_at hlt]
   rw[e2]
   refine Ev.yes (by omega) (Ev.yes (by omega) (Ev.yes (by omega) (Ev.yes (by omega) (Ev.yes (by omega) (Ev.yes hb (Ev.yes (by omega) (Ev.yes hin.1 (Ev.yes (by rw[hfr.1];exact hin.2) (Ev.yes (by omega) ?_)))))))))
   exact hnext
  ·rw[if_neg hb]at hnext
   have h0:=refOfN_f (n:=0) (by decide)
   rw[ratioR_zero1]at h0
   refine Ev.yes (by omega) (Ev.yes (by omega) (Ev.yes (by omega) (Ev.yes (by omega) (Ev.yes (by omega) (Ev.no hb (Ev.bind h0 (Ev.yes (by omega) ?_)))))))
   exact hnext
theorem spreadV_len{c:List Int} : ∀ {ps:List (List Bool)} {fs:List (List S59)},ps.length=fs.length→(spreadV c ps fs).length=ps.length:=by
 intro ps fs h
 unfold spreadV
 rw[List.length_zipWith,h,Nat.min_self]
theorem spreadV_take_succ{c:List Int}{P:List (List Bool)}{M:List (List S59)}{i:Nat}(hi:i< P.length)(hM:i< M.length):spreadV c (P.take i) (M.take i) ++ [outL M[i] P[i] c c.length] =spreadV c (P.take (i+1)) (M.take (i+1)):=by
 unfold spreadV
 rw[List.take_succ_eq_append_getElem hi,List.take_succ_eq_append_getElem hM,List.zipWith_append (by rw[List.length_take,List.length_take];omega)]
 rfl
theorem refSpread_l0{P:List (List Bool)}{c:List Int}{M:List (List S59)}{m:Nat}(hP:P.length< 5000)(hlen:M.length=P.length)(hr: ∀row,row∈P→row.length=c.length)(hcl:c.length< 5000)(hf: ∀fr,fr∈M→goodRow m fr)(hm:m≤4096)(hc: ∀x,x∈c→inR m x=true)
  {t:List (List S59)} {b:Bool} (hsq:Ev (fun k=>fluxionref19_Squeeze.f k (spreadV c P M) c) t) (hsame:Ev (fun k=>fluxionref14_Same.f k t M) b):
  ∀d i,i+d=P.length→Ev (fun k=>fluxionref19_Spread.l0 k P c M (spreadV c (P.take i) (M.take i)) (i:Int)) (spreadV c P M,b):=by
 intro d
 induction d with
 |zero=>
  intro i hi
  have:i=P.length:=by omega
  subst this
  refine Ev.step (fun k=>by rw[fluxionref19_Spread.l0]) ?_
  rw[List.take_length,show P.length=M.length from hlen.symm,List.take_length]
  exact Ev.no (by omega) (Ev.bind hsq (Ev.bind hsame (Ev.now _)))
 |succ d ih=>
  intro i hi
  have hiP:i< P.length:=by omega
  have hiM:i< M.length:=by omega
  have ih:=ih (i+1) (by omega)
  rw[←spreadV_take_succ hiP hiM]at ih
  refine Ev.step (fun k=>by rw[fluxionref19_Spread.l0]) ?_
  have:=refSpread_l1 hP hlen hr hcl hf hm hc hiP (o:=spreadV c (P.take i) (M.take i)) (by rw[spreadV_len (by rw[List.length_take,List.length_take];omega),List.length_take];omega) ih c.length 0 (by omega)
  exact Ev.yes (by omega) this
theorem spreadV_valid{c:List Int}{m:Nat}(hc: ∀x,x∈c→inR m x=true): ∀ {P:List (List Bool)} {M:List (List S59)},(∀fr,fr∈M→goodRow m fr)→ ∀row,row∈spreadV c P M→row.length=c.length∧ ∀x,x∈row→validR (rv x)
 | [],M,_,row,h=>by unfold spreadV at h;simp at h
 |_::_,[],_,row,h=>by unfold spreadV at h;simp at h
 |p::P,fr::M,hf,row,h=>by
  unfold spreadV at h
  rw[List.zipWith_cons_cons]at h
  rcases List.mem_cons.1 h with rfl|h
  ·refine⟨outL_len _ _ _ _,fun x hx=>?_⟩
   unfold outL at hx
   obtain⟨j,hj,rfl⟩:=List.mem_map.1 hx
   have hjc:j< c.length:=List.mem_range.1 hj
   exact(outAt_valid (hf fr (List.mem_cons_self ..)) (by rw[getD_at hjc];exact inR_iff.1 (hc _ (List.getElem_mem hjc)))).1
  ·exact spreadV_valid hc (fun fr hh=>hf fr (List.mem_cons_of_mem _ hh)) row h
theorem sumV_valid{c:Int} : ∀ (ds:List Int) (xs:List S59) {acc:RatV},ds.length=xs.length→(∀x,x∈xs→validR (rv x))→validR acc→validR (rv (sv (sumV c ds xs acc)))
 | [],[],acc,_,_,ha=>ha
 | [],_::_,_,h,_,_=>by simp at h
 |_::_,[],_,h,_,_=>by simp at h
 |d::ds,x::xs,acc,h,hv,ha=>by
  have hx:=hv x (List.mem_cons_self ..)
  have hl:ds.length=xs.length:=by simpa using h
  unfold sumV
  refine sumV_valid ds xs hl (fun y hy=>hv y (List.mem_cons_of_mem _ hy)) ?_
  split
  ·exact plusR_valid ha hx
  ·exact ha
theorem rowV_valid{l1:List Int}{row:List S59}(hl:l1.length=row.length)(hv: ∀x,x∈row→validR (rv x))(m:Nat):(rowV l1 row m 0 []).length=m∧ ∀x,x∈rowV l1 row m 0 [] →validR (rv x):=by
 rw[rowV_eq,List.nil_append]
 refine⟨by simp,fun x hx=>?_⟩
 obtain⟨t,_,rfl⟩:=List.mem_map.1 hx
 exact sumV_valid _ _ hl hv valid_zero
theorem refSpread_f{P:List (List Bool)}{c:List Int}{M:List (List S59)}{m:Nat}(hP:P.length< 4000)(hlen:M.length=P.length)(hr: ∀row,row∈P→row.length=c.length)(hcl:c.length≤4096)(hf: ∀fr,fr∈M→goodRow m fr)(hm:m≤4096)(hc: ∀x,x∈c→inR m x=true)
  (hM:Ev (fun k=>fluxionref19_Many.f k c) ((m:Nat):Int)) (hfit: ∀row,row∈P→fitRow row c=true):Ev (fun k=>fluxionref19_Spread.f k P c M) (spreadV c P M,!leftV c P M):=by
 have hval:=spreadV_valid hc (P:=P) (M:=M) hf
 have hsq:=refSqueeze_f (l0:=spreadV c P M) (l1:=c) (by rw[spreadV_len hlen.symm];omega) (fun row hh=>⟨(hval row hh).1.symm,(hval row hh).2⟩) (by omega) (m:=m) (by omega) hM
 have hgood: ∀row,row∈rowsV c m (spreadV c P M) [] →row.length< 4294967296∧ ∀x,x∈row→x.f2.length< 4294967296∧x.f3.length< 4294967296:=by
  intro row hh
  rw[rowsV_eq,List.nil_append]at hh
  obtain⟨r,hr',rfl⟩:=List.mem_map.1 hh
  have h1:=hval r hr'
  have h2:=rowV_valid h1.1.symm h1.2 m
  refine⟨by rw[h2.1];omega,fun x hx=>?_⟩
  have h3:=valid_len (h2.2 x hx)
  have h4:x.f2.length≤1000:=h3.1
  have h5:x.f3.length≤1000:=h3.2
  omega
 obtain⟨b,hb,hbe⟩:=same_g (l:=rowsV c m (spreadV c P M) []) (m:=M) (by rw[rowsV_eq,List.nil_append,List.length_map,spreadV_len hlen.symm];omega) hgood
 have hall:=all_same hm hc P M hlen.symm hr hfit hf
 rw[rowsV_eq,List.nil_append,hall]at hbe
 have hbb:b=!leftV c P M:=by
  cases b with
  |true=>rw[hbe.1 rfl];rfl
  |false=>
   cases hl:leftV c P M with
   |true=>rfl
   |false=>have:=hbe.2 hl;cases this
 rw[←hbb]
 have h0:=refSpread_l0 (by omega) hlen hr (by omega) hf hm hc hsq hb P.length 0 (by omega)
 unfold fluxionref19_Spread.f
 exact h0
theorem given_f{l:List S59}(hs:l.length< 5000)(hu: ∀x,x∈l→u32R x):Ev (fun k=>fluxionref11_Given.f k (l.length:Int) l false) (if l.all goodX=true then 0 else 5):=by
 have h: ∀d i,i+d=l.length→Ev (fun k=>fluxionref11_Given.l0 k l false ((i:Nat):Int)) (if(l.drop i).all goodX=true then 0 else 5):=by
  intro d
  induction d with
  |zero=>
   intro i hi
   rw[List.drop_eq_nil_of_le (by omega)]
   refine Ev.step (fun k=>by rw[fluxionref11_Given.l0]) ?_
   exact Ev.no (by omega) (Ev.now _)
  |succ d ih=>
   intro i hi
   have hlt:i< l.length:=by omega
   have hx:=refRat_f (hu _ (List.getElem_mem hlt))
   have ih:=ih (i+1) (by omega)
   refine Ev.step (fun k=>by rw[fluxionref11_Given.l0]) ?_
   rw[List.drop_eq_getElem_cons hlt,List.all_cons,rdT_at hlt,w64 ((i:Int) +1) (by omega)]
   refine Ev.yes (by omega) (Ev.yes (by omega) (Ev.bind hx ?_))
   cases ho:okR l[i]with
   |false=>
    have:goodX l[i] =false:=by unfold goodX;rw[ho];rfl
    rw[this,Bool.false_and,if_neg (by decide)]
    exact Ev.no (by decide) (Ev.now _)
   |true=>
    by_cases h0:l[i].f0=0
    ·have:goodX l[i] =true:=by unfold goodX;rw[ho,h0];rfl
     rw[this,Bool.true_and]
     exact Ev.yes rfl (Ev.no (by decide) (Ev.yes h0 ih))
    ·have:goodX l[i] =false:=by unfold goodX;rw[ho,decide_eq_false h0];rfl
     rw[this,Bool.false_and,if_neg (by decide)]
     exact Ev.yes rfl (Ev.no (by decide) (Ev.no h0 (Ev.now _)))
 unfold fluxionref11_Given.f
 have:=h l.length 0 (by omega)
 rw[List.drop_zero]at this
 exact Ev.yes rfl this
section
variable {P:List (List Bool)} {c:List Int} {M:List (List S59)}
theorem lawErr_l1{e:Int}(he:e≠0):Ev (fun k=>fluxionlaw19_SparseSpreads.l1 k P c M [] e e 0) true:=by
 have fin: ∀i:Int,Ev (fun k=>fluxionlaw19_SparseSpreads.j9 k P c M [] e e i false) true:=fun i=>by
  refine Ev.step (fun k=>by rw[fluxionlaw19_SparseSpreads.j9]) ?_
  exact Ev.no (by decide) (Ev.no he (Ev.yes rfl (Ev.yes rfl (Ev.con rfl))))
 refine Ev.step (fun k=>by rw[fluxionlaw19_SparseSpreads.l1]) ?_
 by_cases h:(0:Int)< (M.length:Int)
 ·refine Ev.yes h ?_
  rw[beq_eq_false_iff_ne.2 he]
  exact fin 0
 ·exact Ev.no h (fin 0)
theorem lawErr_at{e:Int}(he:e≠0)(i:Int):Ev (fun k=>fluxionlaw19_SparseSpreads.l1 k P c M [] e e i) true:=by
 have fin: ∀i:Int,Ev (fun k=>fluxionlaw19_SparseSpreads.j9 k P c M [] e e i false) true:=fun i=>by
  refine Ev.step (fun k=>by rw[fluxionlaw19_SparseSpreads.j9]) ?_
  exact Ev.no (by decide) (Ev.no he (Ev.yes rfl (Ev.yes rfl (Ev.con rfl))))
 refine Ev.step (fun k=>by rw[fluxionlaw19_SparseSpreads.l1]) ?_
 by_cases h:i< (M.length:Int)
 ·refine Ev.yes h ?_
  rw[beq_eq_false_iff_ne.2 he]
  exact fin i
 ·exact Ev.no h (fin i)
theorem lawErr_l0{e:Int}(he:e≠0)(i:Int):Ev (fun k=>fluxionlaw19_SparseSpreads.l0 k P c M [] e e i) true:=by
 have fin:Ev (fun k=>fluxionlaw19_SparseSpreads.j7 k P c M [] e e i false) true:=by
  refine Ev.step (fun k=>by rw[fluxionlaw19_SparseSpreads.j7]) ?_
  exact Ev.no (by decide) (lawErr_l1 he)
 refine Ev.step (fun k=>by rw[fluxionlaw19_SparseSpreads.l0]) ?_
 by_cases h:i< (M.length:Int)
 ·refine Ev.yes h ?_
  rw[beq_eq_false_iff_ne.2 he]
  exact fin
 ·exact Ev.no h fin
theorem lawErr_j5{e:Int}(he:e≠0):Ev (fun k=>fluxionlaw19_SparseSpreads.j5 k P c M [] e e) true:=by
 refine Ev.step (fun k=>by rw[fluxionlaw19_SparseSpreads.j5]) ?_
 exact lawErr_l0 he 0
theorem lawErr_j3{e:Int}(he:e≠0):Ev (fun k=>fluxionlaw19_SparseSpreads.j3 k P c M [] e e) true:=by
 refine Ev.step (fun k=>by rw[fluxionlaw19_SparseSpreads.j3]) ?_
 refine Ev.no he ?_
 refine Ev.step (fun k=>by rw[fluxionlaw19_SparseSpreads.j4]) ?_
 exact Ev.no (by decide) (lawErr_j5 he)
theorem lawErr_j1{e:Int}(he:e≠0):Ev (fun k=>fluxionlaw19_SparseSpreads.j1 k P c M [] e e) true:=by
 refine Ev.step (fun k=>by rw[fluxionlaw19_SparseSpreads.j1]) ?_
 refine Ev.no he ?_
 refine Ev.step (fun k=>by rw[fluxionlaw19_SparseSpreads.j2]) ?_
 exact Ev.no (by decide) (lawErr_j3 he)
theorem lawRows_l0{S:List (List S59)}{e:Int}{m:Nat}(hMl:M.length< 5000)(hM:Ev (fun k=>fluxionref19_Many.f k c) ((m:Nat):Int)){R:Bool}(h0:(∀row,row∈M→row.length=m)→Ev (fun k=>fluxionlaw19_SparseSpreads.l1 k P c M S e 0 0) R)
  (h2:(∃row,row∈M∧row.length≠m)→ ∀i:Int,Ev (fun k=>fluxionlaw19_SparseSpreads.l0 k P c M S e 2 i) R): ∀d i,i+d=M.length→(∀row,row∈M.take i→row.length=m)→Ev (fun k=>fluxionlaw19_SparseSpreads.l0 k P c M S e 0 ((i:Nat):Int)) R:=by
 intro d
 induction d with
 |zero=>
  intro i hi ht
  rw[List.take_of_length_le (by omega)]at ht
  refine Ev.step (fun k=>by rw[fluxionlaw19_SparseSpreads.l0]) ?_
  refine Ev.no (by omega) ?_
  refine Ev.step (fun k=>by rw[fluxionlaw19_SparseSpreads.j7]) ?_
  exact Ev.no (by decide) (h0 ht)
 |succ d ih=>
  intro i hi ht
  have hlt:i< M.length:=by omega
  refine Ev.step (fun k=>by rw[fluxionlaw19_SparseSpreads.l0]) ?_
  refine Ev.yes (by omega) ?_
  refine Ev.step (fun k=>by rw[fluxionlaw19_SparseSpreads.j7]) ?_
  rw[w64 ((i:Int) +1) (by omega),rowRDL hlt]
  refine Ev.yes (by decide) (Ev.yes (by omega) (Ev.yes (by omega) (Ev.bind hM ?_)))
  by_cases hl:M[i].length=m
  ·refine Ev.yes (by omega) (ih (i+1) (by omega) (fun row hr=>?_))
   rw[List.take_succ_eq_append_getElem hlt]at hr
   rcases List.mem_append.1 hr with h|h
   ·exact ht row h
   ·rw[List.mem_singleton.1 h];exact hl
  ·exact Ev.no (by omega) (h2 ⟨_,List.getElem_mem hlt,hl⟩ _)
theorem lawElems_l1{S:List (List S59)}{e:Int}(hMl:M.length< 5000)(hu: ∀row,row∈M→row.length< 5000∧ ∀x,x∈row→u32R x){R:Bool}(h0:(∀row,row∈M→row.all goodX=true)→Ev (fun k=>fluxionlaw19_SparseSpreads.j9 k P c M S e 0 ((M.length:Nat):Int) false) R)
  (h5:(∃row,row∈M∧ ¬row.all goodX=true)→ ∀i:Int,Ev (fun k=>fluxionlaw19_SparseSpreads.l1 k P c M S e 5 i) R): ∀d i,i+d=M.length→(∀row,row∈M.take i→row.all goodX=true)→Ev (fun k=>fluxionlaw19_SparseSpreads.l1 k P c M S e 0 ((i:Nat):Int)) R:=by
 intro d
 induction d with
 |zero=>
  intro i hi ht
  have:i=M.length:=by omega
  subst this
  rw[List.take_length]at ht
  refine Ev.step (fun k=>by rw[fluxionlaw19_SparseSpreads.l1]) ?_
  exact Ev.no (by omega) (h0 ht)
 |succ d ih=>
  intro i hi ht
  have hlt:i< M.length:=by omega
  have hr:=hu _ (List.getElem_mem hlt)
  have hg:=given_f hr.1 hr.2
  refine Ev.step (fun k=>by rw[fluxionlaw19_SparseSpreads.l1]) ?_
  refine Ev.yes (by omega) ?_
  refine Ev.step (fun k=>by rw[fluxionlaw19_SparseSpreads.j9]) ?_
  rw[w64 ((i:Int) +1) (by omega),rowRDL hlt]
  refine Ev.yes (by decide) (Ev.yes (by omega) (Ev.yes (by omega) (Ev.bind hg ?_)))
  by_cases hb:M[i].all goodX=true
  ·rw[if_pos hb]
   refine Ev.yes rfl (ih (i+1) (by omega) (fun row hr=>?_))
   rw[List.take_succ_eq_append_getElem hlt]at hr
   rcases List.mem_append.1 hr with h|h
   ·exact ht row h
   ·rw[List.mem_singleton.1 h];exact hb
  ·rw[if_neg hb]
   exact Ev.no (by decide) (h5 ⟨_,List.getElem_mem hlt,hb⟩ _)
end
theorem cutMatrix2_f{l:List (List S59)}(hu: ∀row,row∈l→ ∀x,x∈row→u32s x.f2∧u32s x.f3): ∃r:List (List S59),Ev (fun k=>fluxionref14_CutMatrix.f k l 16 18) r∧r.length≤16∧ ∀row,row∈r→row.length≤18∧ ∀x,x∈row→u32R x:=
 cutMatrix_l0 hu (n:=16) (c:=18) (by decide) (by decide) (min l.length 16) 0 [] (by omega) rfl (fun row h=>by cases h)
theorem topV_ge: ∀ (l:List Int) (t:Int),t≤topV l t
 | [],t=>Int.le_refl t
 |x::l,t=>by
  have:=topV_ge l (mx t (x+1))
  have h:t≤mx t (x+1):=mx_ge
  rw[topV]
  omega
theorem topV_mem: ∀ (l:List Int) (t x:Int),x∈l→x< topV l t
 |y::l,t,x,h=>by
  rw[topV]
  rcases List.mem_cons.1 h with rfl|h
  ·have:=topV_ge l (mx t (x+1))
   have h:x+1≤mx t (x+1):=by unfold mx;split<;>omega
   omega
  ·exact topV_mem l _ x h
theorem spreads_ev{l0:List (List Bool)}{l1:List Int}{l2:List (List S59)}(hw:wfInts l1=true)(hu: ∀row,row∈l2→ ∀x,x∈row→u32s x.f2∧u32s x.f3):Ev (fun k=>fluxionlaw19_SparseSpreads.f k l0 l1 l2) true:=by
 obtain⟨M,hMe,hM1,hM2⟩:=cutMatrix2_f hu
 obtain⟨c,hc⟩: ∃c,l1.take 18=c:=⟨_,rfl⟩
 have hcl:c.length≤18:=by rw[←hc,List.length_take];omega
 have hwc:wfInts c=true:=by
  rw[←hc]
  exact List.all_eq_true.2 (fun x hx=>List.all_eq_true.1 hw x (List.mem_of_mem_take hx))
 have hi:=ints_f l1
 rw[hc]at hi
 have hP0:=cut_is l0
 have hPl:=cutP_length l0
 obtain⟨P,hP⟩: ∃P,cutP l0=P:=⟨_,rfl⟩
 rw[hP]at hP0 hPl
 have hMu: ∀row,row∈M→ ∀x,x∈row→u32R x:=fun row h=>(hM2 row h).2
 have hForm:=refForm_is (P:=P) (by omega) (c.length:Int)
 unfold fluxionlaw19_SparseSpreads.f
 refine Ev.bind hP0 (Ev.bind (Ev.con hi) (Ev.bind hMe ?_))
 by_cases hf:formB P (c.length:Int)=true
 ·rw[if_pos hf]at hForm
  have hnum:=numbered_f (c.length:Int) (c:=c) (by omega)
  by_cases hn:numB (c.length:Int) c=true
  ·rw[hn]at hnum
   have hrows:=form_rows hf
   have hfits:=Fits_f (P:=P) (n:=c.length) (by omega) hrows (q:=c) (Nat.le_refl _) (by omega)
   have hprogfit:=fitRows_is (P:=P) hrows (cs:=c) rfl
   have hS:=seeded_f c
   have hS2:=refSeeded_f c
   by_cases hfit:fitP P c
   ·rw[decide_eq_true hfit]at hfits hprogfit
    have hfitrows: ∀row,row∈P→fitRow row c=true:=fun row hr=>List.all_eq_true.1 hprogfit row hr
    by_cases ha:c.all (inR c.length)=true
    ·have hb:=fun x hx=>List.all_eq_true.1 ha x hx
     obtain⟨ht0,ht1⟩:=topV_bound (n:=c.length) c 0 hb (by omega) (by omega)
     obtain⟨m,hm⟩:=Int.eq_ofNat_of_zero_le ht0
     have hsv:seededV c=((m:Int),0):=by unfold seededV;rw[if_neg (by omega),if_pos ha,hm]
     rw[hsv]at hS hS2
     have hMany:=refMany_f (q:=c) (by omega) hb
     rw[hm]at hMany
     have hcm: ∀x,x∈c→inR m x=true:=fun x hx=>inR_iff.2 ⟨(inR_iff.1 (hb x hx)).1,by have:=topV_mem c 0 x hx;omega⟩
     by_cases hlen:M.length=P.length
     ·have start: ∀ {S:List (List S59)} {e:Int},Ev (fun k=>fluxionlaw19_SparseSpreads.l0 k P c M S e 0 0) true→Ev (fun k=>fluxionlaw19_SparseSpreads.j0 k P c M S e 0 (!true)) true:=fun{S e} fin=>by
       refine Ev.step (fun k=>by rw[fluxionlaw19_SparseSpreads.j0]) ?_
       refine Ev.no (by decide) ?_
       refine Ev.step (fun k=>by rw[fluxionlaw19_SparseSpreads.j1]) ?_
       refine Ev.yes rfl (Ev.bind hfits ?_)
       refine Ev.step (fun k=>by rw[fluxionlaw19_SparseSpreads.j2]) ?_
       refine Ev.no (by decide) ?_
       refine Ev.step (fun k=>by rw[fluxionlaw19_SparseSpreads.j3]) ?_
       refine Ev.yes rfl (Ev.bind hS2 (Ev.yes rfl ?_))
       refine Ev.step (fun k=>by rw[fluxionlaw19_SparseSpreads.j4]) ?_
       refine Ev.no (by rw[hlen];simp) ?_
       refine Ev.step (fun k=>by rw[fluxionlaw19_SparseSpreads.j5]) ?_
       exact fin
      by_cases hrl: ∀row,row∈M→row.length=m
      ·have hany: ¬M.any (fun row=>decide (¬ (row.length:Int)=(m:Int)))=true:=by
        intro h
        obtain⟨row,hr,hx⟩:=List.any_eq_true.1 h
        have:=hrl row hr
        have:=of_decide_eq_true hx
        omega
       by_cases hgood: ∀row,row∈M→row.all goodX=true
       ·have hgr: ∀fr,fr∈M→goodRow m fr:=fun fr hr=>⟨hrl fr hr,fun x hx=>by
         have h1:=List.all_eq_true.1 (hgood fr hr) x hx
         unfold goodX at h1
         simp only[Bool.and_eq_true,decide_eq_true_eq]at h1
         have h2:=hMu fr hr x hx
         exact⟨⟨h2.1,h2.2.1,h1.1⟩,h1.2⟩⟩
        have hnb: ¬M.any (fun row=>row.any fun x=>!goodX x)=true:=by
         intro h
         obtain⟨row,hr,hx⟩:=List.any_eq_true.1 h
         obtain⟨x,hx1,hx2⟩:=List.any_eq_true.1 hx
         rw[List.all_eq_true.1 (hgood row hr) x hx1]at hx2
         cases hx2
        have hprog:=progSpread_to (P:=P) (by omega) hwc (M:=M) hf hn (R:=if leftV c P M=true then([],10)else([] ++spreadV c P M,0)) (by
         rw[hprogfit]
         exact Ev.no (by decide) (Ev.bind hS (Ev.no (by simp) (Ev.no (by omega) (Ev.no hany (progSpread_mid hwc hMu (Ev.no hnb (spreadRows_f (m:=m) (by omega) hcm P M [] hlen.symm hrows hgr))))))))
        rw[List.nil_append]at hprog
        have href:=refSpread_f (P:=P) (c:=c) (M:=M) (m:=m) (by omega) hlen hrows (by omega) hgr (by omega) hcm hMany hfitrows
        have hval:=spreadV_valid hcm (P:=P) (M:=M) hgr
        refine Ev.bind hprog (Ev.bind hForm (Ev.yes rfl (Ev.bind hnum (start ?_))))
        refine lawRows_l0 (P:=P) (c:=c) (by omega) hMany (fun _=>?_) (fun⟨row,hr,hne⟩=>absurd (hrl row hr) hne) M.length 0 (by omega) (fun row h=>by simp at h)
        refine lawElems_l1 (by omega) (fun row hr=>⟨by have:=(hM2 row hr).1;omega,hMu row hr⟩) (fun _=>?_) (fun⟨row,hr,hne⟩=>absurd (hgood row hr) hne) M.length 0 (by omega) (fun row h=>by simp at h)
        refine Ev.step (fun k=>by rw[fluxionlaw19_SparseSpreads.j9]) ?_
        refine Ev.no (by decide) (Ev.yes rfl (Ev.bind href ?_))
        cases hlv:leftV c P M with
        |true=>
         rw[if_pos rfl]
         exact Ev.no (show¬ (!true)=true by decide) (Ev.yes rfl (Ev.yes rfl (Ev.con rfl)))
        |false=>
         rw[if_neg (by decide)]
         obtain⟨b,hb1,hb2⟩:=same_g (l:=spreadV c P M) (m:=spreadV c P M) (by rw[spreadV_len hlen.symm];omega) (fun row hh=>⟨by rw[(hval row hh).1];omega,fun x hx=>by
          have h3:=valid_len ((hval row hh).2 x hx)
          have h4:x.f2.length≤1000:=h3.1
          have h5:x.f3.length≤1000:=h3.2
          omega⟩)
         rw[hb2.2 rfl]at hb1
         exact Ev.yes rfl (Ev.bind hb1 (Ev.yes rfl (Ev.yes rfl (Ev.con rfl))))
       ·have hex: ∃row,row∈M∧ ¬row.all goodX=true:=by
         false_or_by_contra
         rename_i h
         exact hgood (fun row h1=>Classical.not_not.1 (fun h2=>h ⟨row,h1,h2⟩))
        have hb:M.any (fun row=>row.any fun x=>!goodX x)=true:=by
         obtain⟨row,hr,hne⟩:=hex
         refine List.any_eq_true.2 ⟨row,hr,?_⟩
         false_or_by_contra
         rename_i h
         refine hne (List.all_eq_true.2 (fun x hx=>?_))
         cases hg:goodX x with
         |true=>rfl
         |false=>exact absurd (List.any_eq_true.2 ⟨x,hx,by rw[hg];rfl⟩) h
        have hprog:=progSpread_to (P:=P) (by omega) hwc (M:=M) hf hn (R:=([],5)) (by
         rw[hprogfit]
         exact Ev.no (by decide) (Ev.bind hS (Ev.no (by simp) (Ev.no (by omega) (Ev.no hany (progSpread_mid hwc hMu (Ev.yes hb (Ev.now _))))))))
        refine Ev.bind hprog (Ev.bind hForm (Ev.yes rfl (Ev.bind hnum (start ?_))))
        refine lawRows_l0 (P:=P) (c:=c) (by omega) hMany (fun _=>?_) (fun⟨row,hr,hne⟩=>absurd (hrl row hr) hne) M.length 0 (by omega) (fun row h=>by simp at h)
        exact lawElems_l1 (by omega) (fun row hr=>⟨by have:=(hM2 row hr).1;omega,hMu row hr⟩) (fun h=>by obtain⟨row,hr,hne⟩:=hex;exact absurd (h row hr) hne) (fun _ i=>lawErr_at (by decide) i) M.length 0 (by omega) (fun row h=>by simp at h)
      ·have hex: ∃row,row∈M∧row.length≠m:=by
        false_or_by_contra
        rename_i h
        exact hrl (fun row h1=>Classical.not_not.1 (fun h2=>h ⟨row,h1,h2⟩))
       have hany:M.any (fun row=>decide (¬ (row.length:Int)=(m:Int)))=true:=by
        obtain⟨row,hr,hne⟩:=hex
        exact List.any_eq_true.2 ⟨row,hr,decide_eq_true (by omega)⟩
       have hprog:=progSpread_to (P:=P) (by omega) hwc (M:=M) hf hn (R:=([],2)) (by
        rw[hprogfit]
        exact Ev.no (by decide) (Ev.bind hS (Ev.no (by simp) (Ev.no (by omega) (Ev.yes hany (Ev.now _))))))
       refine Ev.bind hprog (Ev.bind hForm (Ev.yes rfl (Ev.bind hnum (start ?_))))
       exact lawRows_l0 (P:=P) (c:=c) (by omega) hMany (fun h=>by obtain⟨row,hr,hne⟩:=hex;exact absurd (h row hr) hne) (fun _ i=>lawErr_l0 (by decide) i) M.length 0 (by omega) (fun row h=>by simp at h)
     ·have hprog:=progSpread_to (P:=P) (by omega) hwc (M:=M) hf hn (R:=([],2)) (by
       rw[hprogfit]
       exact Ev.no (by decide) (Ev.bind hS (Ev.no (by simp) (Ev.yes (by omega) (Ev.now _)))))
      refine Ev.bind hprog (Ev.bind hForm (Ev.yes rfl (Ev.bind hnum ?_)))
      refine Ev.step (fun k=>by rw[fluxionlaw19_SparseSpreads.j0]) ?_
      refine Ev.no (by decide) ?_
      refine Ev.step (fun k=>by rw[fluxionlaw19_SparseSpreads.j1]) ?_
      refine Ev.yes rfl (Ev.bind hfits ?_)
      refine Ev.step (fun k=>by rw[fluxionlaw19_SparseSpreads.j2]) ?_
      refine Ev.no (by decide) ?_
      refine Ev.step (fun k=>by rw[fluxionlaw19_SparseSpreads.j3]) ?_
      refine Ev.yes rfl (Ev.bind hS2 (Ev.yes rfl ?_))
      refine Ev.step (fun k=>by rw[fluxionlaw19_SparseSpreads.j4]) ?_
      exact Ev.yes (bne_iff_ne.2 (by omega)) (lawErr_j5 (by decide))
    ·have hsv:seededV c=(((0:Nat):Int),2):=by unfold seededV;rw[if_neg (by omega),if_neg ha];rfl
     rw[hsv]at hS hS2
     have hprog:=progSpread_to (P:=P) (by omega) hwc (M:=M) hf hn (R:=([],2)) (by
      rw[hprogfit]
      exact Ev.no (by decide) (Ev.bind hS (Ev.yes (by decide) (Ev.now _))))
     refine Ev.bind hprog (Ev.bind hForm (Ev.yes rfl (Ev.bind hnum ?_)))
     refine Ev.step (fun k=>by rw[fluxionlaw19_SparseSpreads.j0]) ?_
     refine Ev.no (by decide) ?_
     refine Ev.step (fun k=>by rw[fluxionlaw19_SparseSpreads.j1]) ?_
     refine Ev.yes rfl (Ev.bind hfits ?_)
     refine Ev.step (fun k=>by rw[fluxionlaw19_SparseSpreads.j2]) ?_
     refine Ev.no (by decide) ?_
     refine Ev.step (fun k=>by rw[fluxionlaw19_SparseSpreads.j3]) ?_
     refine Ev.yes rfl (Ev.bind hS2 (Ev.no (by decide) ?_))
     refine Ev.step (fun k=>by rw[fluxionlaw19_SparseSpreads.j4]) ?_
     exact Ev.yes rfl (lawErr_j5 (by decide))
   ·rw[decide_eq_false hfit]at hfits hprogfit
    have hprog:=progSpread_to (P:=P) (by omega) hwc (M:=M) hf hn (R:=([],9)) (by
     rw[hprogfit]
     exact Ev.yes rfl (Ev.now _))
    refine Ev.bind hprog (Ev.bind hForm (Ev.yes rfl (Ev.bind hnum ?_)))
    refine Ev.step (fun k=>by rw[fluxionlaw19_SparseSpreads.j0]) ?_
    refine Ev.no (by decide) ?_
    refine Ev.step (fun k=>by rw[fluxionlaw19_SparseSpreads.j1]) ?_
    refine Ev.yes rfl (Ev.bind hfits ?_)
    refine Ev.step (fun k=>by rw[fluxionlaw19_SparseSpreads.j2]) ?_
    exact Ev.yes (by decide) (lawErr_j3 (by decide))
  ·have hn':numB (c.length:Int) c=false:=by simpa using hn
   rw[hn']at hnum
   refine Ev.bind (progSpread_num (by omega) M hf hn) (Ev.bind hForm (Ev.yes rfl (Ev.bind hnum ?_)))
   refine Ev.step (fun k=>by rw[fluxionlaw19_SparseSpreads.j0]) ?_
   exact Ev.yes (by decide) (lawErr_j1 (by decide))
 ·rw[if_neg hf]at hForm
  refine Ev.bind (progSpread_form (by omega) M hf) (Ev.bind hForm (Ev.no (by decide) ?_))
  refine Ev.step (fun k=>by rw[fluxionlaw19_SparseSpreads.j0]) ?_
  exact Ev.no (by decide) (lawErr_j1 (by decide))
theorem SparseSpreads(z0:List (List Bool))(w0: ∀row∈z0,∀x∈row,True)(z1:List Int)(w1: ∀d∈z1,(Lit.int .i64 d).wf=true)(z2:List (List S59))(w2: ∀row∈z2,∀x∈row,(Lit.int .i64 x.f0).wf=true∧True∧(∀d∈x.f2,(Lit.int .u32 d).wf=true)∧(∀d∈x.f3,(Lit.int .u32 d).wf=true)): ∃k,fluxionlaw19_SparseSpreads.f k z0 z1 z2=some true:=by
 have hu: ∀ (x:List Int),(∀d∈x,(Lit.int .u32 d).wf=true)→u32s x:=fun x h d hd=>by
  have:=h d hd
  simp[Lit.wf]at this
  have e1:IntKind.u32.min=0:=by rfl
  have e2:IntKind.u32.max=4294967295:=by rfl
  omega
 have hw:wfInts z1=true:=List.all_eq_true.2 (fun d hd=>by
  have:=w1 d hd
  simp[Lit.wf]at this
  have e1:IntKind.i64.min= -9223372036854775808:=by rfl
  have e2:IntKind.i64.max=9223372036854775807:=by rfl
  simp only[Bool.and_eq_true,decide_eq_true_eq]
  omega)
 obtain⟨K,hK⟩:=spreads_ev (l0:=z0) (l1:=z1) (l2:=z2) hw (fun row h x hx=>⟨hu _ (w2 row h x hx).2.2.1,hu _ (w2 row h x hx).2.2.2⟩)
 exact⟨K,hK K (Nat.le_refl _)⟩
end Go.Proofs.YtjjbondlcjnaiaaGreat.Pure
