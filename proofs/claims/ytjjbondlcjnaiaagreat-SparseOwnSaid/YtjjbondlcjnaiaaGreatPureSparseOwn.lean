/- What the program and the specification compute, without the program's code: the plain part of SparseOwn. -/
import Derived.Test.YtjjbondlcjnaiaaGreatPSparseOwnx
namespace Go.Proofs.YtjjbondlcjnaiaaGreat.Pure
open Go.RowKit Go.Proofs.YtjjbondlcjnaiaaGreat.PSparseOwn Go.Proofs.YtjjbondlcjnaiaaGreatW.PrintWords Go.Proofs.YtjjbondlcjnaiaaGreatW.PrintLast Go.Proofs.YtjjbondlcjnaiaaGreatW.PrintMore
set_option linter.unusedVariables false
set_option linter.unusedSimpArgs false
theorem short_is{x:List Int}(hu:u32s x)(hl:x.length< 4294967296): ∀n,n≤x.length→Ev (fun k=>fluxionref01_short.l0 k x n) (digN (valN (x.take n)))
 |0,h=>by
  refine Ev.step (fun k=>by rw[fluxionref01_short.l0]) ?_
  refine Ev.no (by omega) (Ev.yes (by omega) (Ev.yes (by omega) (Ev.is ?_)))
  exact digN_zero.symm
 |n+1,h=>by
  refine Ev.step (fun k=>by rw[fluxionref01_short.l0]) ?_
  rw[wpx (n+1) (by omega) (by omega),Nat.add_sub_cancel]
  refine Ev.yes (by omega) (Ev.yes (by omega) (Ev.yes (by omega) ?_))
  have hs:x.take (n+1)=x.take n++ [x[n]] :=List.take_succ_eq_append_getElem (by omega)
  have er:rd x (n:Int)=x[n] :=by show x.getD n 0=_;simp[List.getD_eq_getElem?_getD,show n< x.length by omega]
  have hd:=hu x[n] (List.getElem_mem (by omega))
  rw[er,hs]
  by_cases h0:x[n] =0
  ·refine Ev.yes h0 ?_
   rw[h0,digN_snoc_zero];exact short_is hu hl n (by omega)
  ·refine Ev.no h0 (Ev.yes (by omega) (Ev.yes (by omega) (Ev.is ?_)))
   rw[Int.toNat_natCast,hs]
   exact(digN_snoc (u32s_take hu n) (by omega)).symm
theorem short_f{x:List Int}(hu:u32s x)(hl:x.length< 4294967296):Ev (fun k=>fluxionref01_short.f k x) (digN (valN x)):=by
 have:=short_is hu hl x.length (Nat.le_refl _)
 rw[List.take_length]at this;exact this
theorem refCompare_l0{x y:List Int}(hx:u32s x)(hy:u32s y)(hl:x.length=y.length)(hs:x.length< 4294967296): ∀i,i≤x.length→Ev (fun k=>fluxionref01_Compare.l0 k x y ((i:Int) - 1)) (cmpI (valN (x.take i)) (valN (y.take i)))
 |0,hi=>by
  refine Ev.step (fun k=>by rw[fluxionref01_Compare.l0]) ?_
  exact Ev.no (by omega) (Ev.is (cmp_eq _).symm)
 |i+1,hi=>by
  refine Ev.step (fun k=>by rw[fluxionref01_Compare.l0]) ?_
  have e:((i+1:Nat):Int) - 1=(i:Int):=by omega
  rw[e,rd_dgt hx,rd_dgt hy,w64 _ (by omega)]
  refine Ev.yes (by omega) (Ev.yes (by omega) (Ev.yes (by omega) (Ev.yes (by omega) ?_)))
  have h1:=val_take_lt hx i
  have h2:=val_take_lt hy i
  rw[val_take_succ,val_take_succ]
  by_cases ha:dgt x i< dgt y i
  ·exact Ev.yes (by omega) (Ev.is (cmp_lt (cmp_top h1 h2 ha)).symm)
  ·by_cases hb:dgt y i< dgt x i
   ·exact Ev.no (by omega) (Ev.yes (by omega) (Ev.is (cmp_gt (cmp_top h2 h1 hb)).symm))
   ·have he:dgt x i=dgt y i:=by omega
    refine Ev.no (by omega) (Ev.no (by omega) ?_)
    have ih:=refCompare_l0 hx hy hl hs i (by omega)
    rw[he]
    have:cmpI (valN (x.take i) +4294967296 ^ i * dgt y i) (valN (y.take i) +4294967296 ^ i * dgt y i)=cmpI (valN (x.take i)) (valN (y.take i)):=by
     unfold cmpI;generalize 4294967296 ^ i * dgt y i=c;simp
    rw[this];exact ih
theorem refCompare_f{x y:List Int}(hx:canon x)(hy:canon y)(hs:x.length< 4294967296):Ev (fun k=>fluxionref01_Compare.f k x y) (cmpI (valN x) (valN y)):=by
 unfold fluxionref01_Compare.f
 by_cases hl:x.length=y.length
 ·refine Ev.yes (by omega) ?_
  have:=refCompare_l0 hx.1 hy.1 hl hs x.length (Nat.le_refl _)
  rw[w64 _ (by omega)]
  rw[List.take_length,val_take_len (by omega)]at this;exact this
 ·by_cases h:x.length< y.length
  ·exact Ev.no (by omega) (Ev.yes (by omega) (Ev.is (cmp_lt (canon_lt_len hx.1 hy h)).symm))
  ·exact Ev.no (by omega) (Ev.no (by omega) (Ev.is (cmp_gt (canon_lt_len hy.1 hx (by omega))).symm))
theorem refDigit_f{x:List Int}(hx:u32s x)(i:Nat):fluxionref01_digit.f x i=some ((dgt x i:Nat):Int):=by
 unfold fluxionref01_digit.f
 by_cases h:i< x.length
 ·have:=dgt_lt hx i
  rw[if_pos (by omega),if_pos (by omega),rd_dgt hx,u64w _ (by omega)]
 ·rw[if_neg (by omega),dgt_high (by omega)];rfl
theorem refSub_l0{x y:List Int}(hx:u32s x)(hy:u32s y)(hl:valN y≤valN x)(hyl:y.length≤x.length)(hs:x.length< 4294967296): ∀d i (o:List Int) (b:Nat),i+d=x.length→o.length=x.length→u32s o→b≤1→valN (o.take i) +valN (y.take i)=valN (x.take i) +b * 4294967296 ^ i→
  Ev (fun k=>fluxionref01_Sub.l0 k x y o b i) (digN (valN x - valN y))
 |0,i,o,b,hi,ho,hu,hb,hv=>by
  refine Ev.step (fun k=>by rw[fluxionref01_Sub.l0]) ?_
  refine Ev.no (by omega) ?_
  rw[val_take_len (by omega),val_take_len (by omega),val_take_len (by omega)]at hv
  have hlt:=val_lt hu
  have e:i=o.length:=by omega
  have hb0:b=0:=by
   rcases Nat.eq_zero_or_pos b with h|h
   ·exact h
   ·have:b=1:=by omega
    subst this;rw[←e]at hlt;omega
  subst hb0
  have:valN x - valN y=valN o:=by omega
  rw[this]
  exact Ev.bind (short_f hu (by omega)) (Ev.now _)
 |d+1,i,o,b,hi,ho,hu,hb,hv=>by
  refine Ev.step (fun k=>by rw[fluxionref01_Sub.l0]) ?_
  refine Ev.yes (by omega) (Ev.yes (by omega) ?_)
  simp only[refDigit_f hy,rd_dgt hx,Option.bind_some]
  have h1:=dgt_lt hx i
  have h2:=dgt_lt hy i
  refine Ev.yes (by omega) ?_
  rw[u64w (dgt x i) (by omega),u64w ((dgt x i:Int) +4294967296) (by omega),u64w ((dgt x i:Int) +4294967296 - dgt y i) (by omega),u64w ((dgt x i:Int) +4294967296 - dgt y i - b) (by omega)]
  have e1:((dgt x i:Int) +4294967296 - dgt y i - b) % 4294967296=((dgt x i+4294967296 - dgt y i - b) % 4294967296:Nat):=by omega
  have e2:1 - ((dgt x i:Int) +4294967296 - dgt y i - b) / 4294967296=((1 - (dgt x i+4294967296 - dgt y i - b) / 4294967296:Nat):Int):=by omega
  rw[e2,u64w _ (by omega),e1,wnx i (by omega),Int.toNat_natCast]
  refine refSub_l0 hx hy hl hyl hs d (i+1) _ _ (by omega) (by rw[List.length_set];exact ho) (u32s_set hu i (by omega)) (by omega) ?_
  rw[val_take_set (by omega),val_take_succ,val_take_succ,Int.toNat_natCast,Nat.pow_succ]
  generalize hB:4294967296 ^ i=B at *
  generalize valN (o.take i)=O at *
  generalize valN (x.take i)=X at *
  generalize valN (y.take i)=Y at *
  generalize dgt x i=p at *
  generalize dgt y i=q at *
  have key:(p+4294967296 - q - b) % 4294967296+q+b=p+ (1 - (p+4294967296 - q - b) / 4294967296) * 4294967296:=by omega
  generalize (p+4294967296 - q - b) % 4294967296=r at *
  generalize 1 - (p+4294967296 - q - b) / 4294967296=c at *
  have k2:B * (r+q+b)=B * (p+c * 4294967296):=by rw[key]
  rw[Nat.mul_add,Nat.mul_add,Nat.mul_add]at k2
  have k3:B * (c * 4294967296)=c * (B * 4294967296):=by rw[Nat.mul_left_comm]
  rw[k3]at k2
  rw[Nat.mul_comm b B]at hv
  omega
theorem refSub_f{x y:List Int}(hx:u32s x)(hy:canon y)(hl:valN y≤valN x)(hs:x.length< 4294967296):Ev (fun k=>fluxionref01_Sub.f k x y) (digN (valN x - valN y)):=by
 unfold fluxionref01_Sub.f
 refine Ev.yes (by omega) (Ev.yes (by omega) ?_)
 rw[Int.toNat_natCast]
 exact refSub_l0 hx hy.1 hl (canon_len_le hy hx hl) hs x.length 0 _ 0 (by omega) List.length_replicate (u32s_zeros _) (by omega) (by simp[valN])
theorem refTwice_l0{x:List Int}(hx:u32s x)(hs:x.length< 4294967000)(b0:Nat): ∀d i (o:List Int) (b:Nat),i+d=x.length→o.length=x.length+1→u32s o→b≤1→valN (o.take i) +b * 4294967296 ^ i=2 * valN (x.take i) +b0→
  Ev (fun k=>fluxionref01_twice.l0 k x b o i) (digN (2 * valN x+b0))
 |0,i,o,b,hi,ho,hu,hb,hv=>by
  refine Ev.step (fun k=>by rw[fluxionref01_twice.l0]) ?_
  refine Ev.no (by omega) (Ev.yes (by omega) (Ev.yes (by omega) ?_))
  have e:i=x.length:=by omega
  subst e
  have h1:=val_take_set (x:=o) (i:=x.length) (by omega) ((b:Nat):Int)
  rw[val_take_len (by rw[List.length_set];omega),Int.toNat_natCast]at h1
  rw[List.take_length]at hv
  have:valN (o.set x.length (b:Int))=2 * valN x+b0:=by rw[h1,Nat.mul_comm];exact hv
  rw[←this,Int.toNat_natCast]
  exact Ev.bind (short_f (u32s_set hu _ (by omega)) (by rw[List.length_set];omega)) (Ev.now _)
 |d+1,i,o,b,hi,ho,hu,hb,hv=>by
  refine Ev.step (fun k=>by rw[fluxionref01_twice.l0]) ?_
  refine Ev.yes (by omega) (Ev.yes (by omega) (Ev.yes (by omega) ?_))
  have h1:=dgt_lt hx i
  rw[rd_dgt hx]
  have e1:((dgt x i:Nat):Int) * 2 % 4294967296=((2 ^ 1 * (dgt x i % 2147483648):Nat):Int):=by omega
  have e2:((dgt x i:Nat):Int) / 2147483648=((dgt x i / 2147483648:Nat):Int):=by omega
  rw[e1,e2,bits_or_u32_nat _ _ (by omega) (by omega),or_add _ _ _ (by omega),wnx i (by omega),Int.toNat_natCast]
  refine refTwice_l0 hx hs b0 d (i+1) _ _ (by omega) (by rw[List.length_set];exact ho) (u32s_set hu i (by omega)) (by omega) ?_
  rw[val_take_set (by omega),val_take_succ,Int.toNat_natCast,powB i]
  generalize 4294967296 ^ i=B at *
  generalize valN (o.take i)=O at *
  generalize valN (x.take i)=X at *
  generalize dgt x i=p at *
  have key:2 ^ 1 * (p % 2147483648) +b+p / 2147483648 * 4294967296=2 * p+b:=by omega
  generalize 2 ^ 1 * (p % 2147483648) +b=r at *
  generalize p / 2147483648=c at *
  have k2:B * (r+c * 4294967296)=B * (2 * p+b):=by rw[key]
  rw[Nat.mul_add,Nat.mul_add]at k2
  have k3:B * (c * 4294967296)=c * (B * 4294967296):=by rw[Nat.mul_left_comm]
  have k4:B * (2 * p)=2 * (B * p):=by rw[Nat.mul_left_comm]
  rw[k3,k4]at k2
  rw[Nat.mul_comm b B]at hv
  omega
theorem refTwice_f{x:List Int}(hx:u32s x)(hs:x.length< 4294967000)(b:Nat)(hb:b≤1):Ev (fun k=>fluxionref01_twice.f k x b) (digN (2 * valN x+b)):=by
 unfold fluxionref01_twice.f
 rw[wnx x.length (by omega)]
 refine Ev.yes (by omega) (Ev.yes (by omega) ?_)
 rw[Int.toNat_natCast]
 exact refTwice_l0 hx hs b x.length 0 _ b (by omega) (by simp) (u32s_zeros _) hb (by simp[valN])
theorem val_split(x:List Int)(i:Nat):valN x=valN (x.take i) +4294967296 ^ i * valN (x.drop i):=by
 by_cases h:i≤x.length
 ·conv=>lhs;rw[←List.take_append_drop i x]
  rw[val_append,List.length_take,Nat.min_eq_left h]
 ·rw[List.drop_eq_nil_of_le (by omega),List.take_of_length_le (by omega)];simp[valN]
theorem refHalf_l0{x:List Int}(hx:u32s x)(hs:x.length< 4294967000): ∀i (o:List Int) (b:Nat),i≤x.length→o.length=x.length→u32s o→b≤1→valN (x.drop i)=2 * valN (o.drop i) +b→
  Ev (fun k=>fluxionref01_half.l0 k x o b ((i:Int) - 1)) (digN (valN x / 2))
 |0,o,b,hi,ho,hu,hb,hv=>by
  refine Ev.step (fun k=>by rw[fluxionref01_half.l0]) ?_
  refine Ev.no (by omega) ?_
  rw[List.drop_zero,List.drop_zero]at hv
  have:valN x / 2=valN o:=by omega
  rw[this]
  exact Ev.bind (short_f hu (by omega)) (Ev.now _)
 |i+1,o,b,hi,ho,hu,hb,hv=>by
  refine Ev.step (fun k=>by rw[fluxionref01_half.l0]) ?_
  have e:((i+1:Nat):Int) - 1=(i:Int):=by omega
  rw[e,rd_dgt hx,w64 _ (by omega)]
  refine Ev.yes (by omega) (Ev.yes (by omega) (Ev.yes (by omega) (Ev.yes (by omega) ?_)))
  have h1:=dgt_lt hx i
  have e1:((dgt x i:Nat):Int) / 2=((dgt x i / 2:Nat):Int):=by omega
  have e2:(b:Int) * 2147483648 % 4294967296=((2 ^ 31 * b:Nat):Int):=by omega
  have e3:Int.tmod ((dgt x i:Nat):Int) 2=((dgt x i % 2:Nat):Int):=by rw[Int.tmod_eq_emod_of_nonneg (by omega)];omega
  rw[e1,e2,e3,bits_or_u32_nat _ _ (by omega) (by omega),Nat.or_comm,or_add _ _ _ (by omega),Int.toNat_natCast]
  refine refHalf_l0 hx hs i _ _ (by omega) (by rw[List.length_set];exact ho) (u32s_set hu i (by omega)) (by omega) ?_
  rw[val_drop_set (by omega),val_drop,Int.toNat_natCast]
  omega
theorem refHalf_f{x:List Int}(hx:u32s x)(hs:x.length< 4294967000):Ev (fun k=>fluxionref01_half.f k x) (digN (valN x / 2)):=by
 unfold fluxionref01_half.f
 refine Ev.yes (by omega) (Ev.yes (by omega) ?_)
 rw[w64 _ (by omega),Int.toNat_natCast]
 exact refHalf_l0 hx hs x.length _ 0 (by omega) List.length_replicate (u32s_zeros _) (by omega) (by rw[List.drop_length,List.drop_eq_nil_of_le (by simp)];rfl)
def nb(n:Nat):Nat:=if h:n=0 then 0 else nb (n / 2) +1
 termination_by n
 decreasing_by omega
theorem nb_zero:nb 0=0:=by rw[nb];rfl
theorem nb_pos{n:Nat}(h:n≠0):nb n=nb (n / 2) +1:=by rw[nb,dif_neg h]
theorem nb_lt(n:Nat):n< 2 ^ nb n:=by
 induction n using Nat.strongRecOn with
 |_ n ih=>
  by_cases h:n=0
  ·subst h;rw[nb_zero];decide
  ·have:=ih (n / 2) (by omega);rw[nb_pos h,Nat.pow_succ];omega
theorem nb_le{n k:Nat}(h:n< 2 ^ k):nb n≤k:=by
 induction k generalizing n with
 |zero=>
      have:n=0:=by simpa using h
      rw[this,nb_zero];exact Nat.le_refl _
 |succ k ih=>
  by_cases h0:n=0
  ·rw[h0,nb_zero];omega
  ·rw[nb_pos h0];rw[Nat.pow_succ]at h;have:=ih (n:=n / 2) (by omega);omega
theorem nb_ge{n k:Nat}(h:2 ^ k≤n):k< nb n:=by
 refine Nat.lt_of_not_le fun hk=>?_
 have h1:=nb_lt n
 have:2 ^ nb n≤2 ^ k:=Nat.pow_le_pow_right (by decide) hk
 omega
theorem refBits_l0: ∀ (n c:Nat),c+n< 8589934592→Ev (fun k=>fluxionref01_Bits.l0 k c n) ((c+nb n:Nat):Int):=by
 intro n
 induction n using Nat.strongRecOn with
 |_ n ih=>
  intro c hc
  refine Ev.step (fun k=>by rw[fluxionref01_Bits.l0]) ?_
  by_cases h:n=0
  ·subst h;refine Ev.no (by omega) (Ev.is ?_);rw[nb_zero];rfl
  ·refine Ev.yes (by omega) ?_
   have e1:Int.tdiv (n:Int) 2=((n / 2:Nat):Int):=by rw[Int.tdiv_eq_ediv_of_nonneg (by omega)];omega
   have:=ih (n / 2) (by omega) (c+1) (by omega)
   rw[e1,wnx c (by omega)]
   rw[nb_pos h,show c+ (nb (n / 2) +1)=c+1+nb (n / 2)by omega]
   by_cases hn:n / 2< 4294967296
   ·have e2:((n / 2:Nat):Int) % 4294967296=((n / 2:Nat):Int):=by omega
    rw[e2];exact this
   ·omega
theorem pow32(i:Nat):(4294967296:Nat) ^ i=2 ^ (32 * i):=by rw[Nat.pow_mul]
theorem dgt_val{x:List Int}(h:u32s x)(j:Nat):dgt x j=valN x / 4294967296 ^ j % 4294967296:=by
 have h1:=val_take_lt h j
 have h2:=dgt_lt h j
 rw[val_split x j,val_drop,Nat.add_mul_div_left _ _ (by exact Nat.pow_pos (by decide)),Nat.div_eq_of_lt h1]
 omega
theorem nb_two(n k:Nat)(h:2 ^ k≤n)(h2:n< 2 ^ (k+1)):nb n=k+1:=Nat.le_antisymm (nb_le h2) (nb_ge h)
theorem nb_top{x:List Int}(h:canon x){k:Nat}(hk:x.length=k+1):nb (valN x)=32 * k+nb (dgt x k):=by
 have hx:x≠ [] :=by intro e;rw[e]at hk;simp at hk
 have e:=val_take_succ x k
 rw[val_take_len (by omega)]at e
 have h1:=val_take_lt h.1 k
 have hd:dgt x k≠0:=by
  intro h0;rw[h0]at e
  have:=val_ge h hk;omega
 have hn:=nb_lt (dgt x k)
 obtain⟨j,hj⟩: ∃j,nb (dgt x k)=j+1:=⟨nb (dgt x k / 2),nb_pos hd⟩
 have hlow:2 ^ j≤dgt x k:=by
  refine Nat.le_of_not_lt fun hl=>?_
  have:=nb_le hl;omega
 rw[hj]at hn ⊢
 rw[←Nat.add_assoc]
 apply nb_two
 ·rw[e,pow32,Nat.pow_add]
  exact Nat.le_trans (Nat.mul_le_mul_left _ hlow) (Nat.le_add_left _ _)
 ·rw[pow32]at e h1
  have h3:dgt x k+1≤2 ^ (j+1):=hn
  have h4:=Nat.mul_le_mul_left (2 ^ (32 * k)) h3
  rw[Nat.mul_add,Nat.mul_one]at h4
  rw[show 32 * k+j+1=32 * k+ (j+1)by omega,Nat.pow_add,e];omega
theorem refBits_f{x:List Int}(h:canon x)(hs:x.length< 100000000):Ev (fun k=>fluxionref01_Bits.f k x) ((nb (valN x):Nat):Int):=by
 unfold fluxionref01_Bits.f
 by_cases h0:x.length=0
 ·have e:x= [] :=List.length_eq_zero_iff.1 h0
  subst e
  refine Ev.yes rfl (Ev.is ?_)
  show(0:Int)=((nb 0:Nat):Int);rw[nb_zero];rfl
 ·obtain⟨k,hk⟩: ∃k,x.length=k+1:=⟨x.length - 1,by omega⟩
  have h2:=dgt_lt h.1 k
  rw[wpx x.length (by omega) (by omega),hk,Nat.add_sub_cancel,rd_dgt h.1]
  refine Ev.no (by omega) (Ev.yes (by omega) (Ev.yes (by omega) ?_))
  have e:wrap64 (32 * (k:Int))=((32 * k:Nat):Int):=by unfold wrap64;omega
  rw[e,nb_top h hk]
  exact refBits_l0 _ _ (by omega)
theorem refLong_f{x:List Int}(h:canon x)(hs:x.length< 100000000):Ev (fun k=>fluxionref02_Long.f k x) (decide (4096< nb (valN x))):=by
 unfold fluxionref02_Long.f
 refine Ev.bind (refBits_f h hs) (Ev.is ?_)
 rw[decide_eq_decide];omega
def bt2(n i:Nat):Nat:=n / 2 ^ i % 2
theorem bt2_le(n i:Nat):bt2 n i≤1:=by unfold bt2;omega
theorem refBit_f{x:List Int}(h:u32s x){i:Nat}(hi:i< 32 * x.length)(hs:x.length< 100000000):fluxionref01_bit.f x i=some ((bt2 (valN x) i:Nat):Int):=by
 unfold fluxionref01_bit.f
 have e1:Int.tdiv (i:Int) 32=((i / 32:Nat):Int):=by rw[Int.tdiv_eq_ediv_of_nonneg (by omega)];omega
 have e2:Int.tmod (i:Int) 32=((i % 32:Nat):Int):=by rw[Int.tmod_eq_emod_of_nonneg (by omega)];omega
 rw[e1,e2,w64 ((i / 32:Nat):Int) (by omega),if_pos (by omega),if_pos (by omega),if_pos (by omega),rd_dgt h]
 have e3:min (((i % 32:Nat):Int)).toNat (IntKind.bits .u32)=i % 32:=by show min (i % 32) 32=_;omega
 have e4:((dgt x (i / 32):Nat):Int) / 2 ^ (i % 32)=((dgt x (i / 32) / 2 ^ (i % 32):Nat):Int):=by simp
 unfold shr;rw[e3,e4,Int.tmod_eq_emod_of_nonneg (Int.natCast_nonneg _),dgt_val h]
 unfold bt2
 congr 1
 have e5:i=32 * (i / 32) +i % 32:=by omega
 have e6:valN x / 2 ^ i=valN x / 4294967296 ^ (i / 32) / 2 ^ (i % 32):=by conv=>lhs;rw[e5,Nat.pow_add,←Nat.div_div_eq_div_mul,←pow32]
 rw[e6]
 generalize valN x / 4294967296 ^ (i / 32)=m
 have hr:i % 32< 32:=by omega
 generalize i % 32=r at hr
 obtain⟨s,hs'⟩: ∃s,32=r+ (s+1):=⟨31 - r,by omega⟩
 have e7:m=4294967296 * (m / 4294967296) +m % 4294967296:=by omega
 generalize m / 4294967296=a at e7
 generalize m % 4294967296=b at e7
 subst e7
 have e8:(4294967296:Nat) * a=2 ^ r * (2 * (2 ^ s * a)):=by
  have:(4294967296:Nat)=2 ^ r * (2 * 2 ^ s):=by
   have h32:(4294967296:Nat)=2 ^ 32:=by decide
   rw[h32,hs',Nat.pow_add,Nat.pow_succ,Nat.mul_comm (2 ^ s) 2]
  rw[this];simp[Nat.mul_assoc]
 rw[e8,Nat.mul_add_div (Nat.pow_pos (by decide))]
 omega
theorem dm_step(X Y b:Nat)(hY:0< Y)(hb:b≤1):(Y≤2 * (X % Y) +b→(2 * X+b) / Y=2 * (X / Y) +1∧(2 * X+b) % Y=2 * (X % Y) +b - Y)∧(¬Y≤2 * (X % Y) +b→(2 * X+b) / Y=2 * (X / Y)∧(2 * X+b) % Y=2 * (X % Y) +b):=by
 have h1:=Nat.mod_lt X hY
 have h2:=Nat.div_add_mod X Y
 have e:2 * X+b=Y * (2 * (X / Y)) + (2 * (X % Y) +b):=by
  have:Y * (2 * (X / Y))=2 * (Y * (X / Y)):=Nat.mul_left_comm _ _ _
  rw[this];omega
 generalize 2 * (X / Y)=c at e
 have hr:2 * (X % Y) +b< 2 * Y:=by omega
 generalize 2 * (X % Y) +b=r at e hr
 rw[e]
 constructor
 ·intro h
  rw[Nat.mul_add_div hY,Nat.mul_add_mod]
  refine⟨?_,?_⟩
  ·rw[Nat.div_eq_of_lt_le (k:=1) (by omega) (by omega)]
  ·rw[Nat.mod_eq_sub_mod h,Nat.mod_eq_of_lt (by omega)]
 ·intro h
  rw[Nat.mul_add_div hY,Nat.mul_add_mod,Nat.div_eq_of_lt (by omega),Nat.mod_eq_of_lt (by omega)];exact⟨rfl,rfl⟩
theorem bt2_step(n i:Nat):n / 2 ^ i=2 * (n / 2 ^ (i+1)) +bt2 n i:=by
 unfold bt2;rw[Nat.pow_succ,←Nat.div_div_eq_div_mul];omega
theorem set_bit{q:List Int}(hq:u32s q){i:Nat}(hi:i< 32 * q.length)(hz:valN q % 2 ^ (i+1)=0):
  u32s (q.set (i / 32) (((dgt q (i / 32) +2 ^ (i % 32):Nat)):Int))∧valN (q.set (i / 32) (((dgt q (i / 32) +2 ^ (i % 32):Nat)):Int))=valN q+2 ^ i∧dgt q (i / 32) |||2 ^ (i % 32)=dgt q (i / 32) +2 ^ (i % 32)∧2 ^ (i % 32)< 4294967296:=by
 have hr:i % 32< 32:=by omega
 have h2r:2 ^ (i % 32) * 2 ^ (31 - i % 32)=2147483648:=by rw[←Nat.pow_add,show i % 32+ (31 - i % 32)=31 by omega]
 have hd:=dgt_lt hq (i / 32)
 have hdv:dgt q (i / 32) % 2 ^ (i % 32+1)=0:=by
  rw[dgt_val hq,pow32]
  have e:i+1=32 * (i / 32) + (i % 32+1):=by omega
  obtain⟨c,hc⟩:=Nat.dvd_of_mod_eq_zero hz
  rw[hc,e,Nat.pow_add,Nat.mul_assoc,Nat.mul_div_cancel_left _ (Nat.pow_pos (by decide))]
  have e3:(4294967296:Nat)=2 ^ (i % 32+1) * 2 ^ (31 - i % 32):=by rw[←Nat.pow_add,show i % 32+1+ (31 - i % 32)=32 by omega]
  rw[e3,Nat.mod_mul_right_mod,Nat.mul_mod_right]
 obtain⟨c,hc⟩:=Nat.dvd_of_mod_eq_zero hdv
 have hc2:2 ^ (i % 32+1)=2 ^ (i % 32) * 2:=by rw[Nat.pow_succ]
 have hor:dgt q (i / 32) |||2 ^ (i % 32)=dgt q (i / 32) +2 ^ (i % 32):=by
  have hp:2 ^ (i % 32)< 2 ^ (i % 32+1):=Nat.pow_lt_pow_right (by decide) (by omega)
  rw[hc,or_add _ _ _ hp]
 have hlt:2 ^ (i % 32)< 4294967296:=Nat.lt_of_lt_of_le (Nat.pow_lt_pow_right (by decide) hr) (by decide)
 have hsum:dgt q (i / 32) +2 ^ (i % 32)< 4294967296:=by
  rw[←hor];exact Nat.or_lt_two_pow (n:=32) hd hlt
 refine⟨u32s_set hq _ (by omega),?_,hor,hlt⟩
 have hv:=val_set (x:=q) (i:=i / 32) (by omega) (((dgt q (i / 32) +2 ^ (i % 32):Nat)):Int)
 rw[Int.toNat_natCast,Nat.mul_add]at hv
 have e4:4294967296 ^ (i / 32) * 2 ^ (i % 32)=2 ^ i:=by rw[pow32,←Nat.pow_add,show 32 * (i / 32) +i % 32=i by omega]
 rw[e4]at hv;omega
theorem mul_two_pow(q i:Nat):q * 2 ^ (i+1)=2 * q * 2 ^ i:=by rw[Nat.pow_succ,Nat.mul_comm (2 ^ i) 2,←Nat.mul_assoc,Nat.mul_comm q 2]
theorem cmpI_ge(a b:Nat):(cmpI a b≥0)↔b≤a:=by unfold cmpI;split<;>(try split)<;>omega
theorem cmpI_gt(a b:Nat):(cmpI a b >0)↔b< a:=by unfold cmpI;split<;>(try split)<;>omega
set_option maxHeartbeats 2000000 in
theorem refDiv_l0{x y:List Int}(hx:u32s x)(hy:canon y)(hy0:y≠ [])(hs:x.length< 100000000)(hys:y.length< 100000000): ∀i (q:List Int),i≤32 * x.length→q.length=x.length→u32s q→valN q=valN x / 2 ^ i / valN y * 2 ^ i→
  Ev (fun k=>fluxionref01_Div.l0 k x y q (digN (valN x / 2 ^ i % valN y)) ((i:Int) - 1)) (digN (valN x / valN y),digN (valN x % valN y)):=by
 intro i
 induction i with
 |zero=>
  intro q hi hl hu hq
  refine Ev.step (fun k=>by rw[fluxionref01_Div.l0]) ?_
  refine Ev.no (by omega) ?_
  simp only[Nat.pow_zero,Nat.div_one,Nat.mul_one]at hq
  rw[Nat.pow_zero,Nat.div_one,←hq]
  exact Ev.bind (short_f hu (by omega)) (Ev.now _)
 |succ i ih0=>
  intro q hi hl hu hq
  have hY:=val_pos hy hy0
  have hb:=bt2_le (valN x) i
  have hst:=bt2_step (valN x) i
  have hdm:=dm_step (valN x / 2 ^ (i+1)) (valN y) (bt2 (valN x) i) hY hb
  have hrl:(digN (valN x / 2 ^ (i+1) % valN y)).length≤y.length:=len_digN_le (Nat.lt_trans (Nat.mod_lt _ hY) (val_lt hy.1))
  refine Ev.step (fun k=>by rw[fluxionref01_Div.l0]) ?_
  have e:((i+1:Nat):Int) - 1=(i:Int):=by omega
  rw[e]
  refine Ev.yes (by omega) ?_
  refine Ev.bind (Ev.con (refBit_f hx (show i< 32 * x.length by omega) hs)) ?_
  refine Ev.bind (refTwice_f (u32s_digN _) (by omega) _ hb) ?_
  rw[val_digN]
  have hlen2:(digN (2 * (valN x / 2 ^ (i+1) % valN y) +bt2 (valN x) i)).length≤y.length+1:=by
   apply len_digN_le
   have h1:=Nat.mod_lt (valN x / 2 ^ (i+1)) hY
   have h2:=val_lt hy.1
   rw[powB]
   have:1≤4294967296 ^ y.length:=Nat.pow_pos (by decide)
   generalize 4294967296 ^ y.length=B at *
   omega
  refine Ev.bind (refCompare_f (canon_digN _) hy (by omega)) ?_
  rw[val_digN]
  have e1:Int.tdiv (i:Int) 32=((i / 32:Nat):Int):=by rw[Int.tdiv_eq_ediv_of_nonneg (by omega)];omega
  have e2:Int.tmod (i:Int) 32=((i % 32:Nat):Int):=by rw[Int.tmod_eq_emod_of_nonneg (by omega)];omega
  rw[w64 ((i:Int) - 1) (by omega)]
  by_cases hge:valN y≤2 * (valN x / 2 ^ (i+1) % valN y) +bt2 (valN x) i
  ·refine Ev.yes ((cmpI_ge _ _).2 hge) (Ev.bind (refSub_f (u32s_digN _) hy (by rw[val_digN];exact hge) (by omega)) ?_)
   rw[val_digN,e1,e2,w64 ((i / 32:Nat):Int) (by omega)]
   have hz:valN q % 2 ^ (i+1)=0:=by rw[hq,Nat.mul_mod_left]
   obtain⟨b1,b2,b3,b4⟩:=set_bit hu (i:=i) (by omega) hz
   have e3:shl .u32 1 ((i % 32:Nat):Int)=((2 ^ (i % 32):Nat):Int):=by
    have e:min (((i % 32:Nat):Int)).toNat (IntKind.bits .u32)=i % 32:=by show min (i % 32) 32=_;omega
    have e2:(2:Int) ^ (i % 32)=((2 ^ (i % 32):Nat):Int):=by simp
    unfold shl;rw[e,Int.one_mul,e2,IntKind.wrap_u32];generalize (2:Nat) ^ (i % 32)=z at b4 ⊢;omega
   refine Ev.yes (by omega) (Ev.yes (by omega) (Ev.yes (by omega) ?_))
   rw[e3,rd_dgt hu,bits_or_u32_nat _ _ (dgt_lt hu _) b4,b3,Int.toNat_natCast]
   have ih:=ih0 (q.set (i / 32) (((dgt q (i / 32) +2 ^ (i % 32):Nat)):Int)) (by omega) (by rw[List.length_set];exact hl) b1 (by
    rw[b2,hq,hst,(hdm.1 hge).1,mul_two_pow,Nat.add_mul,Nat.one_mul])
   rw[hst,(hdm.1 hge).2]at ih;exact ih
  ·refine Ev.no (fun h=>hge ((cmpI_ge _ _).1 h)) ?_
   have ih:=ih0 q (by omega) hl hu (by
    rw[hq,hst,(hdm.2 hge).1,mul_two_pow])
   rw[hst,(hdm.2 hge).2]at ih;exact ih
theorem refDiv_f{x y:List Int}(hx:canon x)(hy:canon y)(hy0:y≠ [])(hs:x.length< 100000000)(hys:y.length< 100000000):Ev (fun k=>fluxionref01_Div.f k x y) (digN (valN x / valN y),digN (valN x % valN y)):=by
 unfold fluxionref01_Div.f
 have hnb:nb (valN x)≤32 * x.length:=nb_le (by rw[←pow32];exact val_lt hx.1)
 refine Ev.yes (by omega) (Ev.yes (by omega) (Ev.bind (refBits_f hx hs) ?_))
 rw[w64 (((nb (valN x):Nat):Int) - 1) (by omega),Int.toNat_natCast]
 have h0:valN x / 2 ^ nb (valN x)=0:=Nat.div_eq_of_lt (nb_lt _)
 have:=refDiv_l0 hx.1 hy hy0 hs hys (nb (valN x)) (List.replicate x.length 0) hnb List.length_replicate (u32s_zeros _) (by rw[h0,val_zeros];simp)
 rw[h0,Nat.zero_mod,digN_zero]at this;exact this
theorem gcd_half{X Y:Nat}(hX:X % 2=0)(hY:Y % 2=1):Nat.gcd (X / 2) Y=Nat.gcd X Y:=by
 have hc:Nat.Coprime 2 Y:=by show Nat.gcd 2 Y=1;rw[Nat.gcd_rec,hY];decide
 have e:X=2 * (X / 2):=by omega
 conv=>rhs;rw[e]
 exact(hc.gcd_mul_left_cancel _).symm
theorem gcd_less{X Y:Nat}(h:X≤Y):Nat.gcd X (Y - X)=Nat.gcd X Y:=by
 have e:Y=(Y - X) +X:=by omega
 conv=>rhs;rw[e]
 rw[Nat.gcd_add_self_right]
theorem first_digit{x:List Int}(h:u32s x):Int.tmod (rd x 0) 2=((valN x % 2:Nat):Int):=by
 have h1:=dgt_lt h 0
 have e:valN x=dgt x 0+4294967296 * valN (x.drop 1):=by have:=val_drop (x:=x) (i:=0);rw[List.drop_zero]at this;exact this
 have e2:rd x 0=((dgt x 0:Nat):Int):=rd_dgt h 0
 rw[e2,Int.tmod_eq_emod_of_nonneg (Int.natCast_nonneg _),e];omega
theorem ne_nil_of_val{x:List Int}(h:0< valN x):0< x.length:=by
 cases x with
 |nil=>exact absurd h (by simp[valN])
 |cons a x=>simp
theorem small_len{n L:Nat}(h:n< 4294967296 ^ L)(hL:L< 1000000):(digN n).length< 1000000:=Nat.lt_of_le_of_lt (len_digN_le h) hL
theorem even_or(n:Nat):n % 2=0∨n % 2=1:=by omega
theorem refGcd_l4{L:Nat}(hL:L< 1000000)(g t:Nat)(ht:t< 4294967296)(hg:g * 2 ^ t< 4294967296 ^ L): ∀d i,i+d=t→Ev (fun k=>fluxionref01_Gcd.l4 k (digN (g * 2 ^ i)) t i) (digN (g * 2 ^ t)):=by
 intro d
 induction d with
 |zero=>
  intro i hi
  have e:i=t:=by omega
  subst e
  have:=small_len hg hL
  refine Ev.step (fun k=>by rw[fluxionref01_Gcd.l4]) ?_
  refine Ev.no (by omega) ?_
  simp only[Option.bind_some,List.nil_append,List.length_nil]
  exact Ev.yes (by omega) (Ev.now _)
 |succ d ih=>
  intro i hi
  have h1:g * 2 ^ i< 4294967296 ^ L:=Nat.lt_of_le_of_lt (Nat.mul_le_mul_left _ (Nat.pow_le_pow_right (by decide) (by omega))) hg
  have h2:=small_len h1 hL
  refine Ev.step (fun k=>by rw[fluxionref01_Gcd.l4]) ?_
  refine Ev.yes (by omega) ?_
  rw[wnx i (by omega)]
  refine Ev.bind (refTwice_f (u32s_digN _) (by omega) 0 (by omega)) ?_
  have e:2 * valN (digN (g * 2 ^ i)) +0=g * 2 ^ (i+1):=by rw[val_digN,Nat.pow_succ,Nat.add_zero,Nat.mul_left_comm,Nat.mul_comm 2 (2 ^ i)]
  rw[e];exact ih (i+1) (by omega)
theorem refGcd_l3{L:Nat}(hL:L< 1000000)(t:Nat)(R:List Int)(s:Nat)(hs:s< 4294967296 ^ L)
  (P1: ∀X Y,X+Y< s→0< X→X % 2=1→Ev (fun k=>fluxionref01_Gcd.l1 k (digN X) (digN Y) t) (digN (Nat.gcd X Y * 2 ^ t))) (X:Nat) (hX:X % 2=1):
  ∀Y,0< Y→X+Y≤s→Ev (fun k=>fluxionref01_Gcd.l3 k (digN X) (digN Y) t) (digN (Nat.gcd X Y * 2 ^ t)):=by
 intro Y
 induction Y using Nat.strongRecOn with
 |_ Y ih=>
  intro hY hXY
  have l1:=small_len (n:=X) (L:=L) (by omega) hL
  have l2:=small_len (n:=Y) (L:=L) (by omega) hL
  have p2:=ne_nil_of_val (x:=digN Y) (by rw[val_digN];exact hY)
  refine Ev.step (fun k=>by rw[fluxionref01_Gcd.l3]) ?_
  refine Ev.yes (by omega) ?_
  rw[first_digit (u32s_digN Y),val_digN]
  rcases even_or Y with h|h
  ·refine Ev.yes (by omega) (Ev.bind (refHalf_f (u32s_digN Y) (by omega)) ?_)
   rw[val_digN]
   have:=ih (Y / 2) (by omega) (by omega) (by omega)
   rw[Nat.gcd_comm X,gcd_half h hX,Nat.gcd_comm]at this;exact this
  ·refine Ev.no (by omega) (Ev.bind (refCompare_f (canon_digN X) (canon_digN Y) (by omega)) ?_)
   rw[val_digN,val_digN]
   by_cases hc:Y< X
   ·refine Ev.yes ((cmpI_gt _ _).2 hc) (Ev.bind (refSub_f (u32s_digN X) (canon_digN Y) (by rw[val_digN,val_digN];omega) (by omega)) ?_)
    rw[val_digN,val_digN]
    have:=P1 Y (X - Y) (by omega) hY h
    rw[gcd_less (by omega),Nat.gcd_comm]at this;exact this
   ·refine Ev.no (fun h=>hc ((cmpI_gt _ _).1 h)) (Ev.bind (refSub_f (u32s_digN Y) (canon_digN X) (by rw[val_digN,val_digN];omega) (by omega)) ?_)
    rw[val_digN,val_digN]
    have:=P1 X (Y - X) (by omega) (by omega) hX
    rw[gcd_less (by omega)]at this;exact this
theorem refGcd_l2{L:Nat}(hL:L< 1000000)(t:Nat)(s:Nat)(hs:s< 4294967296 ^ L)(Y:Nat)(hY:0< Y)
  (P3: ∀X,X % 2=1→X+Y≤s→Ev (fun k=>fluxionref01_Gcd.l3 k (digN X) (digN Y) t) (digN (Nat.gcd X Y * 2 ^ t))):
  ∀X,0< X→(X % 2=1∨Y % 2=1)→X+Y≤s→Ev (fun k=>fluxionref01_Gcd.l2 k (digN X) (digN Y) t) (digN (Nat.gcd X Y * 2 ^ t)):=by
 intro X
 induction X using Nat.strongRecOn with
 |_ X ih=>
  intro hX ho hXY
  have l1:=small_len (n:=X) (L:=L) (by omega) hL
  have p1:=ne_nil_of_val (x:=digN X) (by rw[val_digN];exact hX)
  refine Ev.step (fun k=>by rw[fluxionref01_Gcd.l2]) ?_
  refine Ev.yes (by omega) ?_
  rw[first_digit (u32s_digN X),val_digN]
  rcases even_or X with h|h
  ·refine Ev.yes (by omega) (Ev.bind (refHalf_f (u32s_digN X) (by omega)) ?_)
   rw[val_digN]
   have hY1:Y % 2=1:=by omega
   have:=ih (X / 2) (by omega) (by omega) (.inr hY1) (by omega)
   rw[gcd_half h hY1]at this;exact this
  ·exact Ev.no (by omega) (P3 X h hXY)
theorem refGcd_l1{L:Nat}(hL:L< 1000000)(t:Nat)(ht:t< 4294967296): ∀s X Y,X+Y=s→s * 2 ^ t< 4294967296 ^ L→0< X→(X % 2=1∨Y % 2=1)→(Y=0→X % 2=1)→Ev (fun k=>fluxionref01_Gcd.l1 k (digN X) (digN Y) t) (digN (Nat.gcd X Y * 2 ^ t)):=by
 intro s
 induction s using Nat.strongRecOn with
 |_ s ih=>
  intro X Y hs hb hX ho h0
  have hsb:s< 4294967296 ^ L:=Nat.lt_of_le_of_lt (Nat.le_mul_of_pos_right _ (Nat.pow_pos (by decide))) hb
  refine Ev.step (fun k=>by rw[fluxionref01_Gcd.l1]) ?_
  rcases Nat.eq_zero_or_pos Y with hY|hY
  ·subst hY
   rw[digN_zero,Nat.gcd_zero_right]
   refine Ev.no (by simp) ?_
   have hle:X * 2 ^ t< 4294967296 ^ L:=Nat.lt_of_le_of_lt (Nat.mul_le_mul_right _ (by omega)) hb
   have:=refGcd_l4 hL X t ht hle t 0 (by omega)
   rw[Nat.pow_zero,Nat.mul_one]at this;exact this
  ·have p2:=ne_nil_of_val (x:=digN Y) (by rw[val_digN];exact hY)
   refine Ev.yes (by omega) ?_
   refine refGcd_l2 hL t s hsb Y hY (fun X' hX' hXY'=>?_) X hX ho (by omega)
   refine refGcd_l3 hL t [] s hsb (fun X2 Y2 h2 hp hodd=>?_) X' hX' Y hY hXY'
   exact ih (X2+Y2) h2 X2 Y2 rfl (Nat.lt_of_le_of_lt (Nat.mul_le_mul_right _ (by omega)) hb) hp (.inl hodd) (fun _=>hodd)
theorem refGcd_l0{L:Nat}(hL:L< 1000000)(G:Nat): ∀ (s X Y t:Nat),X+Y=s→(X+Y) * 2 ^ t< 4294967296 ^ L→0< X→0< Y→t< 33000000→Nat.gcd X Y * 2 ^ t=G→Ev (fun k=>fluxionref01_Gcd.l0 k (digN X) (digN Y) t) (digN G):=by
 intro s
 induction s using Nat.strongRecOn with
 |_ s ih=>
  intro X Y t hs hb hX hY ht hG
  have hsb:X+Y< 4294967296 ^ L:=Nat.lt_of_le_of_lt (Nat.le_mul_of_pos_right _ (Nat.pow_pos (by decide))) hb
  have l1:=small_len (n:=X) (L:=L) (by omega) hL
  have l2:=small_len (n:=Y) (L:=L) (by omega) hL
  have p1:=ne_nil_of_val (x:=digN X) (by rw[val_digN];exact hX)
  have p2:=ne_nil_of_val (x:=digN Y) (by rw[val_digN];exact hY)
  have out:(X % 2=1∨Y % 2=1)→Ev (fun k=>fluxionref01_Gcd.j1 k (digN X) (digN Y) t false) (digN G):=by
   intro ho
   refine Ev.step (fun k=>by rw[fluxionref01_Gcd.j1]) ?_
   refine Ev.no (by decide) ?_
   rw[←hG]
   exact refGcd_l1 hL t (by omega) (X+Y) X Y rfl hb hX ho (by omega)
  refine Ev.step (fun k=>by rw[fluxionref01_Gcd.l0]) ?_
  refine Ev.yes (by omega) ?_
  rw[first_digit (u32s_digN X),first_digit (u32s_digN Y),val_digN,val_digN]
  rcases even_or X with h|h
  ·refine Ev.yes (by omega) (Ev.yes (by omega) ?_)
   rcases even_or Y with h2|h2
   ·have e:(((Y % 2:Nat):Int)==0)=true:=by rw[h2];rfl
    rw[e]
    refine Ev.step (fun k=>by rw[fluxionref01_Gcd.j1]) ?_
    refine Ev.yes rfl (Ev.bind (refHalf_f (u32s_digN X) (by omega)) (Ev.bind (refHalf_f (u32s_digN Y) (by omega)) ?_))
    rw[val_digN,val_digN,wnx t (by omega)]
    have hp:2 ^ (t+1)=2 ^ t * 2:=by rw[Nat.pow_succ]
    have e3:(X / 2+Y / 2) * 2 ^ (t+1)=(X+Y) * 2 ^ t:=by
     rw[hp,Nat.mul_comm (2 ^ t) 2,←Nat.mul_assoc];congr 1;omega
    have e4:Nat.gcd (X / 2) (Y / 2) * 2 ^ (t+1)=G:=by
     have eX:X=2 * (X / 2):=by omega
     have eY:Y=2 * (Y / 2):=by omega
     rw[←hG]
     conv=>rhs;rw[eX,eY]
     rw[Nat.gcd_mul_left,hp,Nat.mul_comm (2 ^ t) 2,←Nat.mul_assoc,Nat.mul_comm 2]
    have ht2:t+1< 33000000:=by
     have h32:2 ^ (t+1)≤(X+Y) * 2 ^ t:=by rw[hp,Nat.mul_comm];exact Nat.mul_le_mul_right _ (by omega)
     have h33:2 ^ (t+1)< 2 ^ (32 * L):=by rw[←pow32];omega
     have:=(Nat.pow_lt_pow_iff_right (a:=2) (by decide)).1 h33
     omega
    exact ih (X / 2+Y / 2) (by omega) (X / 2) (Y / 2) (t+1) rfl (by rw[e3];exact hb) (by omega) (by omega) ht2 e4
   ·have e:(((Y % 2:Nat):Int)==0)=false:=by rw[h2];rfl
    rw[e];exact out (.inr h2)
  ·exact Ev.no (by omega) (out (.inl h))
theorem refGcd_f{x y:List Int}(hx:canon x)(hy:canon y)(hs:x.length< 400000)(hys:y.length< 400000):Ev (fun k=>fluxionref01_Gcd.f k x y) (digN (Nat.gcd (valN x) (valN y))):=by
 unfold fluxionref01_Gcd.f
 simp only[Option.bind_some,List.nil_append,List.length_nil]
 by_cases h0:x.length=0
 ·have e:x= [] :=List.length_eq_zero_iff.1 h0
  subst e
  refine Ev.yes rfl (Ev.yes (by omega) (Ev.is ?_))
  show y=digN (Nat.gcd 0 (valN y));rw[Nat.gcd_zero_left,digN_val hy]
 ·by_cases h1:y.length=0
  ·have e:y= [] :=List.length_eq_zero_iff.1 h1
   subst e
   refine Ev.no (by omega) (Ev.yes rfl (Ev.yes (by omega) (Ev.is ?_)))
   show x=digN (Nat.gcd (valN x) 0);rw[Nat.gcd_zero_right,digN_val hx]
  ·refine Ev.no (by omega) (Ev.no (by omega) ?_)
   have px:=val_pos hx (by intro e;rw[e]at h0;simp at h0)
   have py:=val_pos hy (by intro e;rw[e]at h1;simp at h1)
   have bx:=val_lt hx.1
   have by':=val_lt hy.1
   have h2:valN x+valN y< 4294967296 ^ (x.length+y.length+1):=by
    have e1:4294967296 ^ x.length≤4294967296 ^ (x.length+y.length):=Nat.pow_le_pow_right (by decide) (by omega)
    have e2:4294967296 ^ y.length≤4294967296 ^ (x.length+y.length):=Nat.pow_le_pow_right (by decide) (by omega)
    rw[powB];omega
   have:=refGcd_l0 (L:=x.length+y.length+1) (by omega) (Nat.gcd (valN x) (valN y)) (valN x+valN y) (valN x) (valN y) 0 rfl (by rw[Nat.pow_zero,Nat.mul_one];exact h2) px py (by omega) (by rw[Nat.pow_zero,Nat.mul_one])
   rw[digN_val hx,digN_val hy]at this;exact this
theorem natMul_l1{x y:List Int}(hx:u32s x)(hy:u32s y)(hs:x.length+y.length< 4294967000){i:Nat}(hi:i< x.length)(R:List Int)(o0:List Int)
  (next: ∀o,o.length=x.length+y.length→u32s o→valN o=valN o0+4294967296 ^ i * (dgt x i * valN y)→(∀j,i+1+y.length≤j→dgt o j=0)→Ev (fun k=>nat_mul.l0 k y o x x.length (wrap64 ((i:Int) +1))) R):
  ∀d k (o:List Int) (c:Nat),k+d=y.length→o.length=x.length+y.length→u32s o→c< 4294967296→(∀j,i+y.length≤j→dgt o j=0)→valN o+c * 4294967296 ^ (i+k)=valN o0+4294967296 ^ i * (dgt x i * valN (y.take k))→
  Ev (fun K=>nat_mul.l1 K y o i (dgt x i:Nat) c x x.length i y y.length k) R:=by
 intro d
 induction d with
 |zero=>
  intro k o c hk ho hu hc hz hv
  have HV:=Aside0.mk hv
  clear hv
  have e:k=y.length:=by omega
  subst e
  refine Ev.step (fun k=>by rw[nat_mul.l1]) ?_
  refine Ev.no (by omega) ?_
  have e1:wrap64 ((i:Int) + (y.length:Int))=((i+y.length:Nat):Int):=by unfold wrap64;omega
  have e2:(c:Int) % 4294967296=(c:Int):=by omega
  rw[e1,e2,Int.toNat_natCast]
  refine Ev.yes (by omega) (Ev.yes (by omega) (next _ (by rw[List.length_set];exact ho) (u32s_set hu _ (by omega)) ?_ (fun j hj=>?_)))
  ·have v1:=val_set (x:=o) (i:=i+y.length) (by omega) (c:Int)
   rw[hz _ (Nat.le_refl _),Int.toNat_natCast,Nat.mul_zero,Nat.add_zero]at v1
   have hv:=HV.out
   rw[List.take_length]at hv
   rw[v1,Nat.mul_comm];exact hv
  ·rw[dgt_set (by omega),if_neg (by omega)];exact hz j (by omega)
 |succ d ih=>
  intro k o c hk ho hu hc hz hv
  have HV:=Aside0.mk hv
  clear hv
  have h1:=dgt_lt hx i
  have h2:=dgt_lt hy k
  have h3:=dgt_lt hu (i+k)
  have hp:dgt x i * dgt y k≤4294967295 * 4294967295:=Nat.mul_le_mul (by omega) (by omega)
  have eP:((dgt x i:Nat):Int) * ((dgt y k:Nat):Int)=((dgt x i * dgt y k:Nat):Int):=by simp
  generalize hP:dgt x i * dgt y k=p at *
  refine Ev.step (fun k=>by rw[nat_mul.l1]) ?_
  have e1:wrap64 ((i:Int) + (k:Int))=((i+k:Nat):Int):=by unfold wrap64;omega
  rw[e1,rd_dgt hy,rd_dgt hu,wnx k (by omega),Int.toNat_natCast]
  have e2:IntKind.u64.wrap ((c:Int) +IntKind.u64.wrap (IntKind.u64.wrap (IntKind.u64.wrap ((dgt x i:Nat):Int) * IntKind.u64.wrap ((dgt y k:Nat):Int)) +IntKind.u64.wrap ((dgt o (i+k):Nat):Int)))=((c+ (p+dgt o (i+k)):Nat):Int):=by
   rw[u64w ((dgt x i:Nat):Int) (by omega),u64w ((dgt y k:Nat):Int) (by omega),u64w ((dgt o (i+k):Nat):Int) (by omega),eP,u64w (p:Int) (by omega),u64w ((p:Int) + ((dgt o (i+k):Nat):Int)) (by omega),u64w _ (by omega)];omega
  have e3:((c+ (p+dgt o (i+k)):Nat):Int) % 4294967296=(((c+ (p+dgt o (i+k))) % 4294967296:Nat):Int):=by omega
  have e4:((c+ (p+dgt o (i+k)):Nat):Int) / 4294967296=(((c+ (p+dgt o (i+k))) / 4294967296:Nat):Int):=by omega
  rw[e2,e3,e4]
  clear e1 e2 e3 e4 eP
  have b2:i+k< o.length:=by rw[ho];omega
  refine Ev.yes (Int.ofNat_lt.2 (by omega)) (Ev.yes (Int.natCast_nonneg _) (Ev.yes (Int.ofNat_lt.2 (by omega)) (Ev.yes (Int.natCast_nonneg _) (Ev.yes (Int.ofNat_lt.2 b2) ?_))))
  refine ih (k+1) _ _ (by omega) (by rw[List.length_set];exact ho) (u32s_set hu _ (by omega)) (by omega) (fun j hj=>by rw[dgt_set (by omega),if_neg (by omega)];exact hz j hj) ?_
  have hv:=HV.out
  have v1:=val_set (x:=o) (i:=i+k) (by omega) (((c+ (p+dgt o (i+k))) % 4294967296:Nat):Int)
  rw[Int.toNat_natCast]at v1
  have hdm:=Nat.div_add_mod (c+ (p+dgt o (i+k))) 4294967296
  rw[val_take_succ,Nat.mul_add,Nat.mul_add]
  have k1:4294967296 ^ i * (dgt x i * (4294967296 ^ k * dgt y k))=4294967296 ^ (i+k) * p:=by rw[←hP,Nat.pow_add,Nat.mul_left_comm (dgt x i),Nat.mul_assoc]
  rw[k1,←Nat.add_assoc i k 1,powB]
  generalize 4294967296 ^ i * (dgt x i * valN (y.take k))=z0 at *
  generalize 4294967296 ^ (i+k)=B at *
  generalize (c+ (p+dgt o (i+k))) % 4294967296=r at *
  generalize (c+ (p+dgt o (i+k))) / 4294967296=q at *
  have k2:B * (4294967296 * q+r)=B * (c+ (p+dgt o (i+k))):=by rw[hdm]
  rw[Nat.mul_add,Nat.mul_add,Nat.mul_add]at k2
  have k3:q * (B * 4294967296)=B * (4294967296 * q):=by rw[Nat.mul_comm q,Nat.mul_assoc]
  rw[k3]
  rw[Nat.mul_comm c B]at hv
  generalize B * (4294967296 * q)=z1 at *
  omega
theorem natMul_l0{x y:List Int}(hx:u32s x)(hy:u32s y)(hs:x.length+y.length< 4294967000): ∀d i (o:List Int),i+d=x.length→o.length=x.length+y.length→u32s o→(∀j,i+y.length≤j→dgt o j=0)→valN o=valN (x.take i) * valN y→
  Ev (fun k=>nat_mul.l0 k y o x x.length i) (digN (valN x * valN y)):=by
 intro d
 induction d with
 |zero=>
  intro i o hi ho hu hz hv
  refine Ev.step (fun k=>by rw[nat_mul.l0]) ?_
  refine Ev.no (by omega) ?_
  rw[val_take_len (by omega)]at hv
  rw[←hv]
  exact Ev.bind (trim_f hu (by omega)) (Ev.now _)
 |succ d ih=>
  intro i o hi ho hu hz hv
  refine Ev.step (fun k=>by rw[nat_mul.l0]) ?_
  rw[rd_dgt hx]
  refine Ev.yes (by omega) (Ev.yes (by omega) (Ev.yes (by omega) ?_))
  refine natMul_l1 hx hy hs (by omega) _ o (fun o' ho' hu' hv' hz'=>?_) y.length 0 o 0 (by omega) ho hu (by omega) hz (by simp[valN])
  rw[wnx i (by omega)]
  exact ih (i+1) o' (by omega) ho' hu' hz' (by rw[hv',hv,val_take_succ,Nat.add_mul,Nat.mul_assoc])
theorem natMul_f{x y:List Int}(hx:u32s x)(hy:u32s y)(hs:x.length+y.length< 4294967000):Ev (fun k=>nat_mul.f k x y) (digN (valN x * valN y)):=by
 unfold nat_mul.f
 have e:wrap64 ((x.length:Int) + (y.length:Int))=((x.length+y.length:Nat):Int):=by unfold wrap64;omega
 rw[e,Int.toNat_natCast]
 refine Ev.yes (by omega) (Ev.yes (by omega) ?_)
 refine natMul_l0 hx hy hs x.length 0 _ (by omega) List.length_replicate (u32s_zeros _) (fun j hj=>?_) (by rw[val_zeros];simp[valN])
 unfold dgt;simp[List.getD_eq_getElem?_getD,List.getElem?_replicate];split<;>simp
def exactR(neg:Bool)(n d:Nat):Int×Bool×List Int×List Int:=if n=0 then(0,false,[],[1])else(0,neg,digN (n / Nat.gcd n d),digN (d / Nat.gcd n d))
theorem len_small{x:List Int}{c:Nat}(hx:canon x)(h:x.length≤c){m:Nat}(hm:m≤valN x):(digN m).length≤c:=by
 refine Nat.le_trans (len_digN_le (k:=x.length) (Nat.lt_of_le_of_lt hm (val_lt hx.1))) h
theorem refExact_j0t{neg:Bool}{x y:List Int}{g:Nat}(hx:canon x)(hy:canon y)(hg:0< g)(hs:x.length< 400000)(hys:y.length< 400000)(hgl:(digN g).length< 400000):Ev (fun k=>fluxionref02_Exact.j0 k neg x y (digN g) true) (0,neg,digN (valN x / g),digN (valN y / g)):=by
 have hg0:digN g≠ [] :=fun e=>by rw[digN_nil]at e;omega
 have l1:=len_small hx (c:=400000) (by omega) (Nat.div_le_self (valN x) g)
 have l2:=len_small hy (c:=400000) (by omega) (Nat.div_le_self (valN y) g)
 refine Ev.step (fun k=>by rw[fluxionref02_Exact.j0]) ?_
 refine Ev.yes rfl (Ev.bind (refDiv_f hx (canon_digN g) hg0 (by omega) (by omega)) (Ev.bind (refDiv_f hy (canon_digN g) hg0 (by omega) (by omega)) ?_))
 rw[val_digN]
 simp only[Option.bind_some,List.nil_append,List.length_nil]
 exact Ev.yes (by omega) (Ev.yes (by omega) (Ev.now _))
theorem refExact_j0f{neg:Bool}{x y g:List Int}(hs:x.length< 400000)(hys:y.length< 400000):Ev (fun k=>fluxionref02_Exact.j0 k neg x y g false) (0,neg,x,y):=by
 refine Ev.step (fun k=>by rw[fluxionref02_Exact.j0]) ?_
 refine Ev.no (by decide) ?_
 simp only[Option.bind_some,List.nil_append,List.length_nil]
 exact Ev.yes (by omega) (Ev.yes (by omega) (Ev.now _))
theorem refExact_f{neg:Bool}{x y:List Int}(hx:canon x)(hy:canon y)(hs:x.length< 400000)(hys:y.length< 400000):Ev (fun k=>fluxionref02_Exact.f k neg x y) (exactR neg (valN x) (valN y)):=by
 unfold fluxionref02_Exact.f exactR
 by_cases h0:x.length=0
 ·have e:x= [] :=List.length_eq_zero_iff.1 h0
  subst e
  refine Ev.yes rfl ?_
  rw[if_pos (show valN [] =0 from rfl)]
  exact Ev.now _
 ·have px:=val_pos hx (by intro e;rw[e]at h0;simp at h0)
  rw[if_neg (by omega)]
  refine Ev.no (by omega) (Ev.bind (refGcd_f hx hy hs hys) ?_)
  have hg0:0< Nat.gcd (valN x) (valN y):=Nat.gcd_pos_of_pos_left _ px
  have hgl:=len_small hx (c:=399999) (by omega) (Nat.le_of_dvd px (Nat.gcd_dvd_left (valN x) (valN y)))
  generalize Nat.gcd (valN x) (valN y)=g at *
  have hgn:=ne_nil_of_val (x:=digN g) (by rw[val_digN];exact hg0)
  by_cases h1:(digN g).length >1
  ·exact Ev.yes (by omega) (refExact_j0t hx hy hg0 hs hys (by omega))
  ·refine Ev.no (by omega) (Ev.yes (by omega) ?_)
   have hlt:g< 4294967296:=by
    have:=val_lt (u32s_digN g)
    rw[val_digN,show(digN g).length=1 by omega,Nat.pow_one]at this;exact this
   have hr:rd (digN g) 0=(g:Int):=by
    have e1:rd (digN g) 0=((dgt (digN g) 0:Nat):Int):=rd_dgt (u32s_digN g) 0
    have e2:=dgt_val (u32s_digN g) 0
    rw[val_digN,Nat.pow_zero,Nat.div_one,Nat.mod_eq_of_lt hlt]at e2
    rw[e1,e2]
   rw[hr]
   by_cases h2:(g:Int) >1
   ·rw[decide_eq_true h2];exact refExact_j0t hx hy hg0 hs hys (by omega)
   ·have hg1:g=1:=by omega
    rw[decide_eq_false h2,hg1,Nat.div_one,Nat.div_one,digN_val hx,digN_val hy]
    exact refExact_j0f hs hys
def boundR(r:Int×Bool×List Int×List Int):Int×Bool×List Int×List Int:=if 4096< nb (valN r.2.2.1)∨4096< nb (valN r.2.2.2)then(4,false,[],[])else r
theorem refBound_f{f:Int}{neg:Bool}{x y:List Int}(hx:canon x)(hy:canon y)(hs:x.length< 400000)(hys:y.length< 400000):Ev (fun k=>fluxionref02_Bound.f k f neg x y) (boundR (f,neg,x,y)):=by
 unfold fluxionref02_Bound.f boundR
 refine Ev.bind (refLong_f hx (by omega)) ?_
 by_cases h1:4096< nb (valN x)
 ·exact Ev.yes (decide_eq_true h1) (Ev.is (if_pos (Or.inl h1)).symm)
 ·refine Ev.no (fun h=>h1 (of_decide_eq_true h)) (Ev.bind (refLong_f hy (by omega)) ?_)
  by_cases h2:4096< nb (valN y)
  ·exact Ev.yes (decide_eq_true h2) (Ev.is (if_pos (Or.inr h2)).symm)
  ·exact Ev.no (fun h=>h2 (of_decide_eq_true h)) (Ev.is (if_neg (fun h=>h.elim h1 h2)).symm)
def formV(x:List Int):Int:=if 512< x.length then 3 else if x≠ [] ∧x.getLast?.getD 1=0 then 5 else 0
def formL:List (List Int)→Int
 | [] =>0
 |x::l=>if formV x=0 then formL l else formV x
theorem natForm_l0(xs:List (List Int))(hs:xs.length< 4294967296)(hxs: ∀x∈xs,x.length< 4294967296): ∀d i,i+d=xs.length→Ev (fun k=>nat_form.l0 k xs xs.length i) (formL (xs.drop i)):=by
 intro d
 induction d with
 |zero=>
  intro i hi
  refine Ev.step (fun k=>by rw[nat_form.l0]) ?_
  refine Ev.no (by omega) (Ev.is ?_)
  rw[List.drop_eq_nil_of_le (by omega)];rfl
 |succ d ih=>
  intro i hi
  have hl:i< xs.length:=by omega
  have er:rd_L3 xs (i:Int)=xs[i] :=by show xs.getD i [] =_;simp[List.getD_eq_getElem?_getD,hl]
  have hx:=hxs xs[i] (List.getElem_mem hl)
  have ihn:=ih (i+1) (by omega)
  refine Ev.step (fun k=>by rw[nat_form.l0]) ?_
  rw[er,wnx i (by omega),List.drop_eq_getElem_cons hl,formL]
  generalize xs[i] =x at *
  refine Ev.yes (by omega) (Ev.yes (by omega) (Ev.yes (by omega) ?_))
  by_cases h1:512< x.length
  ·have e:formV x=3:=if_pos h1
   rw[e]
   exact Ev.yes (by omega) (Ev.now _)
  ·refine Ev.no (by omega) ?_
   by_cases h0:x.length=0
   ·have hn:x= [] :=List.length_eq_zero_iff.1 h0
    have e:formV x=0:=by unfold formV;rw[if_neg h1,if_neg (fun h=>h.1 hn)]
    rw[e,if_pos rfl]
    exact Ev.no (by omega) ihn
   ·have hn:x≠ [] :=fun e=>h0 (by rw[e];rfl)
    rw[wpx x.length (by omega) (by omega)]
    have e2:rd x ((x.length - 1:Nat):Int)=x.getLast?.getD 1:=by
     show x.getD (x.length - 1) 0=_
     rw[List.getLast?_eq_getElem?,List.getD_eq_getElem?_getD,List.getElem?_eq_getElem (by omega)];rfl
    rw[e2]
    refine Ev.yes (by omega) (Ev.yes (by omega) (Ev.yes (by omega) ?_))
    by_cases h2:x.getLast?.getD 1=0
    ·have e:formV x=5:=by unfold formV;rw[if_neg h1,if_pos ⟨hn,h2⟩]
     rw[e]
     exact Ev.yes h2 (Ev.now _)
    ·have e:formV x=0:=by unfold formV;rw[if_neg h1,if_neg (fun h=>h2 h.2)]
     rw[e,if_pos rfl]
     exact Ev.no h2 ihn
theorem natForm_f(xs:List (List Int))(hs:xs.length< 4294967296)(hxs: ∀x∈xs,x.length< 4294967296):Ev (fun k=>nat_form.f k xs) (formL xs):=by
 have:=natForm_l0 xs hs hxs xs.length 0 (by omega)
 rw[List.drop_zero]at this;exact this
theorem formV_canon{x:List Int}(hx:canon x)(h:x.length≤512):formV x=0:=by
 unfold formV;rw[if_neg (by omega),if_neg]
 intro hc
 have:=hx.2 hc.1
 rw[List.getLast?_eq_some_getLast hc.1]at hc
 exact this hc.2
theorem canon_formV{x:List Int}(hu:u32s x)(h:formV x=0):canon x∧x.length≤512:=by
 unfold formV at h
 by_cases h1:512< x.length
 ·rw[if_pos h1]at h;omega
 ·rw[if_neg h1]at h
  refine⟨⟨hu,fun hn h0=>?_⟩,by omega⟩
  rw[if_pos ⟨hn,by rw[List.getLast?_eq_some_getLast hn];exact h0⟩]at h;omega
theorem two_digits(n:Nat)(h:n< 18446744073709551616):u32s [((n:Int)) % 4294967296,((n:Int) / 4294967296) % 4294967296] ∧valN [((n:Int)) % 4294967296,((n:Int) / 4294967296) % 4294967296] =n:=by
 refine⟨by rw[u32s_cons,u32s_cons];exact⟨by omega,by omega,u32s_nil⟩,?_⟩
 simp only[valN];omega
theorem natOf_f(n:Nat)(h:n< 18446744073709551616):Ev (fun k=>nat_Of.f k n) (digN n):=by
 unfold nat_Of.f
 obtain⟨h1,h2⟩:=two_digits n h
 have:=trim_f h1 (by simp)
 rw[h2]at this
 exact Ev.bind this (Ev.now _)
theorem refOf01_f(n:Nat)(h:n< 18446744073709551616):Ev (fun k=>fluxionref01_Of.f k n) (digN n):=by
 unfold fluxionref01_Of.f
 obtain⟨h1,h2⟩:=two_digits n h
 have:=short_f h1 (by simp)
 rw[h2]at this
 exact Ev.bind this (Ev.now _)
theorem refRatio_f{neg:Bool}{x y:List Int}(hx:canon x)(hy:canon y)(hs:x.length< 400000)(hys:y.length< 400000):Ev (fun k=>fluxionref02_Ratio.f k neg x y) (if y.length=0 then(11,false,[],[])else boundR (exactR neg (valN x) (valN y))):=by
 unfold fluxionref02_Ratio.f
 by_cases h0:y.length=0
 ·exact Ev.yes (by omega) (Ev.is (if_pos h0).symm)
 ·refine Ev.no (by omega) (Ev.bind (refExact_f hx hy hs hys) ?_)
  have hc:canon (exactR neg (valN x) (valN y)).2.2.1∧canon (exactR neg (valN x) (valN y)).2.2.2∧(exactR neg (valN x) (valN y)).2.2.1.length< 400000∧(exactR neg (valN x) (valN y)).2.2.2.length< 400000:=by
   unfold exactR;split
   ·refine⟨canon_nil,⟨by rw[u32s_cons];exact⟨by omega,u32s_nil⟩,fun h=>by simp⟩,by simp,by simp⟩
   ·have l1:=len_small hx (c:=x.length) (Nat.le_refl _) (Nat.div_le_self (valN x) (Nat.gcd (valN x) (valN y)))
    have l2:=len_small hy (c:=y.length) (Nat.le_refl _) (Nat.div_le_self (valN y) (Nat.gcd (valN x) (valN y)))
    exact⟨canon_digN _,canon_digN _,by show(digN _).length< _;omega,by show(digN _).length< _;omega⟩
  refine Ev.bind (refBound_f hc.1 hc.2.1 hc.2.2.1 hc.2.2.2) (Ev.is ?_)
  rw[if_neg h0]
def signedR(p:Bool)(a:Nat)(q:Bool)(b:Nat):Bool×Nat:=if p=q then(p,a+b)else if b≤a then(p,a - b)else(q,b - a)
def ratioR(neg:Bool)(n d:Nat):Int×Bool×List Int×List Int:=if d=0 then(11,false,[],[])else boundR (exactR neg n d)
def leastR(a b:Int):Int:=if a=0 then b else if b=0 then a else if b< a then b else a
theorem refRatioN_f{neg:Bool}{n d L:Nat}(hn:n< 4294967296 ^ L)(hd:d< 4294967296 ^ L)(hL:L< 400000):Ev (fun k=>fluxionref02_Ratio.f k neg (digN n) (digN d)) (ratioR neg n d):=by
 have l1:=len_digN_le hn
 have l2:=len_digN_le hd
 have:=refRatio_f (neg:=neg) (canon_digN n) (canon_digN d) (by omega) (by omega)
 rw[val_digN,val_digN]at this
 unfold ratioR
 by_cases h:d=0
 ·rw[if_pos h];rw[if_pos (by rw[h,digN_zero];rfl)]at this;exact this
 ·rw[if_neg h]
  have hl:(digN d).length≠0:=fun e=>h (digN_nil.1 (List.length_eq_zero_iff.1 e))
  rw[if_neg hl]at this;exact this
theorem mul_pow_lt{a b i j:Nat}(ha:a< 4294967296 ^ i)(hb:b< 4294967296 ^ j):a * b< 4294967296 ^ (i+j):=by
 rw[Nat.pow_add];exact Nat.mul_lt_mul'' ha hb
theorem signedR_le(p:Bool)(a:Nat)(q:Bool)(b:Nat):(signedR p a q b).2≤a+b:=by unfold signedR;split<;>(try split)<;>simp only[] <;>omega
def goodB(x:List Int):Bool:=decide (x.length≤128) && (x.isEmpty||decide (x.getLast?.getD 1≠0))
theorem good_canon{x:List Int}(hu:u32s x)(h:goodB x=true):canon x∧x.length≤128:=by
 unfold goodB at h
 rw[Bool.and_eq_true,decide_eq_true_iff,Bool.or_eq_true,decide_eq_true_iff]at h
 refine⟨⟨hu,fun hn h0=>?_⟩,h.1⟩
 rcases h.2 with h2|h2
 ·cases x with
  |nil=>exact hn rfl
  |cons a x=>simp at h2
 ·exact h2 (by rw[List.getLast?_eq_some_getLast hn];exact h0)
def isRatB(f:Int)(p:Bool)(x a:List Int):Bool:=
 if f=0 then goodB x && (goodB a && (!a.isEmpty && (!(p && x.isEmpty) && decide (Nat.gcd (valN x) (valN a)=1))))else(decide (f=4) ||decide (f=11)) && (!p && (x.isEmpty && a.isEmpty))
theorem one_digit(g:Nat)(hg:0< g):(if((digN g).length:Int)=1 then(if 0< ((digN g).length:Int)then(some ((rd (digN g) 0)==1))else(none))else(some false))=some (decide (g=1)):=by
 by_cases h1:(digN g).length=1
 ·rw[if_pos (by omega),if_pos (by omega)]
  have hlt:g< 4294967296:=by
   have:=val_lt (u32s_digN g)
   rw[val_digN,h1,Nat.pow_one]at this;exact this
  have e1:rd (digN g) 0=((dgt (digN g) 0:Nat):Int):=rd_dgt (u32s_digN g) 0
  have e2:=dgt_val (u32s_digN g) 0
  rw[val_digN,Nat.pow_zero,Nat.div_one,Nat.mod_eq_of_lt hlt]at e2
  rw[e1,e2];congr 1;rw[Bool.eq_iff_iff,beq_iff_eq,decide_eq_true_iff];omega
 ·rw[if_neg (by omega)];congr 1
  symm;apply decide_eq_false;intro h
  apply h1;rw[h,digN_pos (by decide)];simp[digN_zero]
theorem natDiv_is{x y:List Int}(hx:canon x)(hy:canon y)(h0:y≠ [])(hs:x.length< 4294960000):nat_div.f x y=some (digN (valN x / valN y),digN (valN x % valN y)):=by
 unfold nat_div.f
 rw[if_pos]
 simp only[Bool.and_eq_true,decide_eq_true_eq,canonB_iff]
 exact⟨⟨⟨hx,hy⟩,fun h=>h0 (List.length_eq_zero_iff.1 h)⟩,hs⟩
theorem digN_len_le{n:Nat}{x:List Int}(hx:u32s x)(h:n≤valN x):(digN n).length≤x.length:=len_digN_le (Nat.lt_of_le_of_lt h (val_lt hx))
theorem natGcd_l0: ∀ (Y X:Nat) (x y:List Int),canon x→canon y→valN x=X→valN y=Y→x.length< 4294960000→y.length< 4294960000→Ev (fun k=>nat_gcd.l0 k x y) (digN (Nat.gcd X Y)):=by
 intro Y
 induction Y using Nat.strongRecOn with
 |_ Y ih=>
  intro X x y hx hy ex ey hs hys
  refine Ev.step (fun k=>by rw[nat_gcd.l0]) ?_
  by_cases h0:y= []
  ·subst h0
   have e:Y=0:=ey.symm
   subst e
   refine Ev.no (by simp) ?_
   rw[Nat.gcd_zero_right,←ex,digN_val hx]
   exact Ev.bind (Ev.con (show slices_Clone_uint32_uint32.f x=some x from if_pos (by omega))) (Ev.now _)
  ·have hp:=val_pos hy h0
   have hl:0< y.length:=Nat.pos_of_ne_zero fun h=>h0 (List.length_eq_zero_iff.1 h)
   refine Ev.yes (by omega) (Ev.bind (Ev.con (natDiv_is hx hy h0 hs)) ?_)
   have hm:=Nat.mod_lt X (show Y >0 by omega)
   rw[ex,ey]
   have e:Nat.gcd X Y=Nat.gcd Y (X % Y):=by rw[Nat.gcd_comm X Y,Nat.gcd_rec Y X,Nat.gcd_comm]
   rw[e]
   have hl2:=digN_len_le hy.1 (show X % Y≤valN y by omega)
   exact ih (X % Y) hm Y y (digN (X % Y)) hy (canon_digN _) ey (val_digN _) hys (by omega)
theorem natGcd_f{x y:List Int}(hx:canon x)(hy:canon y)(hs:x.length< 4294960000)(hys:y.length< 4294960000):Ev (fun k=>nat_gcd.f k x y) (digN (Nat.gcd (valN x) (valN y))):=natGcd_l0 _ _ x y hx hy rfl rfl hs hys
theorem form2{x y:List Int}(hx:canon x)(hy:canon y)(hs:x.length≤512)(hys:y.length≤512):Ev (fun k=>nat_form.f k ([x,y] :List (List Int))) 0:=by
 have:=natForm_f [x,y] (by simp) (by intro z hz;simp at hz;rcases hz with rfl|rfl<;>omega)
 rw[formL,formV_canon hx hs,if_pos rfl,formL,formV_canon hy hys,if_pos rfl,formL]at this
 exact this
theorem natGcdE_f{x y:List Int}(hx:canon x)(hy:canon y)(hs:x.length≤512)(hys:y.length≤512):Ev (fun k=>nat_Gcd.f k x y) (digN (Nat.gcd (valN x) (valN y)),0):=by
 unfold nat_Gcd.f
 exact Ev.bind (form2 hx hy hs hys) (Ev.yes rfl (Ev.bind (natGcd_f hx hy (by omega) (by omega)) (Ev.now _)))
theorem natDivE_f{x y:List Int}(hx:canon x)(hy:canon y)(h0:y≠ [])(hs:x.length≤512)(hys:y.length≤512):Ev (fun k=>nat_Div.f k x y) (digN (valN x / valN y),digN (valN x % valN y),0):=by
 unfold nat_Div.f
 have hl:0< y.length:=Nat.pos_of_ne_zero fun h=>h0 (List.length_eq_zero_iff.1 h)
 exact Ev.bind (form2 hx hy hs hys) (Ev.yes rfl (Ev.no (by omega) (Ev.bind (Ev.con (natDiv_is hx hy h0 (by omega))) (Ev.now _))))
theorem bitLen_nb: ∀ (f x:Nat),x< 2 ^ f→f≤64→Lib.bitLen x=nb x
  |0,x,h,_=>by
                     have e:x=0:=by simpa using h
                     subst e;rw[nb_zero];rfl
  |f+1,x,h,hf=>by
    by_cases h0:x=0
    · subst h0;rw[nb_zero];rfl
    · have h64:x< 2 ^ 64:=Nat.lt_of_lt_of_le h (Nat.pow_le_pow_right (by decide) hf)
      rw[Lib.bitLen_half x h0 h64,nb_pos h0,bitLen_nb f (x / 2) (by rw[Nat.pow_succ]at h;omega) (by omega)]
      omega
theorem nb_shift(k:Nat): ∀ (d r:Nat),d≠0→r< 2 ^ k→nb (r+2 ^ k * d)=k+nb d:=by
 induction k with
 |zero=>
      intro d r hd hr;have:r=0:=by simpa using hr
      subst this;simp
 |succ k ih=>
  intro d r hd hr
  have hp:0< 2 ^ k * d:=Nat.mul_pos (Nat.pow_pos (by decide)) (Nat.pos_of_ne_zero hd)
  rw[Nat.pow_succ]at hr
  have e:r+2 ^ (k+1) * d=r+2 * (2 ^ k * d):=by rw[Nat.pow_succ,Nat.mul_comm (2 ^ k) 2,Nat.mul_assoc]
  rw[e,nb_pos (by omega),show(r+2 * (2 ^ k * d)) / 2=r / 2+2 ^ k * d by omega,ih d (r / 2) hd (by omega)]
  omega
theorem nbTop{x:List Int}(hx:canon x){n:Nat}(hn:x.length=n+1):nb (valN x)=32 * n+nb (dgt x n):=by
 have hd:dgt x n≠0:=by
  intro e
  have h1:=val_top x hn
  have h2:valN (x.take n)< 4294967296 ^ n:=val_take_lt hx.1 n
  have h3:=val_ge hx hn
  rw[e,Nat.mul_zero]at h1;omega
 have h1:=val_top x hn
 have hB:(4294967296:Nat) ^ n=2 ^ (32 * n):=by rw[Nat.pow_mul]
 rw[h1,hB]
 exact nb_shift _ _ _ hd (by rw[←hB];exact val_take_lt hx.1 n)
theorem natSize_f{x:List Int}(hx:canon x)(hs:x.length≤512):nat_size.f x=some ((nb (valN x):Nat):Int):=by
 unfold nat_size.f
 by_cases h0:x.length=0
 ·have e:x= [] :=List.length_eq_zero_iff.1 h0
  subst e
  rw[show valN [] =0 from rfl,nb_zero];rfl
 ·obtain⟨n,hn⟩: ∃n,x.length=n+1:=⟨x.length - 1,by omega⟩
  have e:wrap64 ((x.length:Int) - 1)=((n:Nat):Int):=by rw[w64 _ (by omega)];omega
  have hd:=dgt_lt hx.1 n
  rw[if_neg (by omega),e,if_pos (by omega),if_pos (by omega),rd_dgt hx.1]
  have hb:bits_Len32.f ((dgt x n:Nat):Int)=some ((nb (dgt x n):Nat):Int):=by
   unfold bits_Len32.f
   rw[if_pos (by omega),if_pos (by omega),Int.toNat_natCast,bitLen_nb 32 _ hd (by decide)]
  have hle:nb (dgt x n)≤32:=nb_le hd
  rw[hb,Option.bind_some,nbTop hx hn]
  have e1:wrap64 (32 * ((n:Nat):Int))=((32 * n:Nat):Int):=by rw[w64 _ (by omega)];omega
  rw[e1,w64 _ (by omega)]
  exact congrArg some (by omega)
theorem form1{x:List Int}(hl:x.length< 4294967296):Ev (fun k=>nat_form.f k ([x] :List (List Int))) (formV x):=by
 have:=natForm_f [x] (by simp) (by intro z hz;simp at hz;subst hz;exact hl)
 rw[formL]at this
 by_cases h:formV x=0
 ·rw[if_pos h,formL]at this;rw[h];exact this
 ·rw[if_neg h]at this;exact this
theorem long_f{x:List Int}(hx:canon x)(hs:x.length≤512):Ev (fun k=>frac_long.f k x) (decide (4096< nb (valN x))):=by
 unfold frac_long.f nat_Bits.f
 have h1:=form1 (x:=x) (by omega)
 rw[formV_canon hx hs]at h1
 refine Ev.bind (Ev.bind h1 (Ev.yes rfl (Ev.bind (Ev.con (natSize_f hx hs)) (Ev.now _)))) (Ev.yes rfl (Ev.is ?_))
 congr 1
 exact propext (by constructor<;>intro h<;>omega)
theorem boundR_digN(f:Int)(p:Bool)(a b:Nat):boundR (f,p,digN a,digN b)=if 4096< nb a∨4096< nb b then(4,false,[],[])else(f,p,digN a,digN b):=by
 unfold boundR
 rw[val_digN,val_digN]
theorem quotient_f{neg:Bool}{x y:List Int}(hx:canon x)(hy:canon y)(hs:x.length≤512)(hys:y.length≤512):Ev (fun k=>frac_quotient.f k neg x y) (ratioR neg (valN x) (valN y)):=by
 unfold frac_quotient.f ratioR
 by_cases h0:y.length=0
 ·have e:y= [] :=List.length_eq_zero_iff.1 h0
  subst e
  rw[if_pos (show valN [] =0 from rfl)]
  exact Ev.yes rfl (Ev.now _)
 ·have hy0:y≠ [] :=fun e=>h0 (by rw[e];rfl)
  have hp:=val_pos hy hy0
  rw[if_neg (by omega)]
  have hg:0< Nat.gcd (valN x) (valN y):=Nat.gcd_pos_of_pos_right _ hp
  have hgl:=digN_len_le hy.1 (Nat.le_of_dvd hp (Nat.gcd_dvd_right (valN x) (valN y)))
  have hgn:digN (Nat.gcd (valN x) (valN y))≠ [] :=fun e=>by rw[digN_nil]at e;omega
  refine Ev.no (by omega) (Ev.bind (natGcdE_f hx hy hs hys) (Ev.bind (Ev.con (show frac_natural.f _ _=some _ from rfl)) (Ev.bind (natDivE_f hx (canon_digN _) hgn hs (Nat.le_trans hgl hys)) (Ev.bind (natDivE_f hy (canon_digN _) hgn hys (Nat.le_trans hgl hys)) ?_))))
  rw[val_digN]
  have l1:=digN_len_le hx.1 (Nat.div_le_self (valN x) (Nat.gcd (valN x) (valN y)))
  have l2:=digN_len_le hy.1 (Nat.div_le_self (valN y) (Nat.gcd (valN x) (valN y)))
  have hex:exactR neg (valN x) (valN y)=(0,neg && decide (valN x / Nat.gcd (valN x) (valN y)≠0),digN (valN x / Nat.gcd (valN x) (valN y)),digN (valN y / Nat.gcd (valN x) (valN y))):=by
   unfold exactR
   by_cases hx0:valN x=0
   ·rw[if_pos hx0,hx0,Nat.gcd_zero_left,Nat.zero_div,digN_zero,Nat.div_self hp,digN_pos (by decide)]
    simp[digN_zero]
   ·have:valN x / Nat.gcd (valN x) (valN y)≠0:=fun e=>by
     have h1:=Nat.div_add_mod (valN x) (Nat.gcd (valN x) (valN y))
     rw[e,Nat.mul_zero,Nat.mod_eq_zero_of_dvd (Nat.gcd_dvd_left _ _)]at h1
     omega
    rw[if_neg hx0,decide_eq_true this,Bool.and_true]
  rw[hex,boundR_digN]
  generalize hA:valN x / Nat.gcd (valN x) (valN y)=A at *
  generalize hB:valN y / Nat.gcd (valN x) (valN y)=B at *
  refine Ev.bind (long_f (canon_digN _) (Nat.le_trans l1 hs)) ?_
  rw[val_digN]
  by_cases c1:4096< nb A
  ·rw[if_pos (show 4096< nb A∨4096< nb B from Or.inl c1)]
   exact Ev.yes (decide_eq_true c1) (Ev.bind (Ev.con (show frac_fault.f 4=some (4,false,[],[])from rfl)) (Ev.now _))
  ·refine Ev.no (fun h=>c1 (of_decide_eq_true h)) (Ev.bind (long_f (canon_digN _) (Nat.le_trans l2 hys)) ?_)
   rw[val_digN]
   by_cases c2:4096< nb B
   ·rw[if_pos (show 4096< nb A∨4096< nb B from Or.inr c2)]
    exact Ev.yes (decide_eq_true c2) (Ev.bind (Ev.con (show frac_fault.f 4=some (4,false,[],[])from rfl)) (Ev.now _))
   ·rw[if_neg (show¬ (4096< nb A∨4096< nb B)from fun h=>h.elim c1 c2)]
    refine Ev.no (fun h=>c2 (of_decide_eq_true h)) ?_
    have hlen:decide ((((digN A).length:Nat):Int) >0)=decide (A≠0):=by
     congr 1
     refine propext ⟨fun h e=>?_,fun h=>?_⟩
     ·rw[e,digN_zero]at h;simp at h
     ·have:digN A≠ [] :=fun e=>h (digN_nil.1 e)
      have:=List.length_pos_iff.2 this
      omega
    cases neg with
    |true=>exact Ev.yes rfl (Ev.is (by simp only[hlen,Bool.true_and]))
    |false=>exact Ev.no (by decide) (Ev.is (by simp only[Bool.false_and]))
def fB(x:List Int):Bool:=canonB x && decide (x.length≤512)
theorem fB_iff{x:List Int} :fB x=true↔canon x∧x.length≤512:=by unfold fB;rw[Bool.and_eq_true,canonB_iff,decide_eq_true_iff]
theorem form_dec{x:List Int}(hx:u32s x)(hl:x.length< 4294967296):Ev (fun k=>nat_IsNat.f k x) (fB x):=by
 unfold nat_IsNat.f
 refine Ev.bind (form1 hl) (Ev.is ?_)
 rw[Bool.eq_iff_iff,beq_iff_eq,fB_iff]
 exact⟨fun h=>canon_formV hx h,fun h=>formV_canon h.1 h.2⟩
theorem pow_split(a b:Nat)(h:b=32 * a):(2:Nat) ^ b=4294967296 ^ a:=by
 subst h
 rw[Nat.pow_mul]
theorem nb_long{x:List Int}(hx:canon x):nb (valN x)≤4096↔x.length≤128:=by
 constructor
 ·intro h
  refine Nat.le_of_not_lt fun hl=>?_
  obtain⟨n,hn⟩: ∃n,x.length=n+1:=⟨x.length - 1,by omega⟩
  have h1:=nb_top hx hn
  have hp:0< nb (dgt x n):=by
   refine Nat.pos_of_ne_zero fun e=>?_
   have h2:=nb_lt (dgt x n)
   rw[e,Nat.pow_zero]at h2
   have h3:=val_top x hn
   have h4:valN (x.take n)< 4294967296 ^ n:=val_take_lt hx.1 n
   have h5:=val_ge hx hn
   rw[show dgt x n=0 by omega,Nat.mul_zero]at h3
   omega
  omega
 ·intro h
  refine nb_le ?_
  have h1:=val_lt hx.1
  have h2:(4294967296:Nat) ^ x.length≤4294967296 ^ 128:=Nat.pow_le_pow_right (by decide) h
  rw[pow_split 128 4096 rfl]
  omega
theorem good_iff{x:List Int}(hx:u32s x):goodB x=true↔canon x∧x.length≤128:=by
 refine⟨good_canon hx,fun h=>?_⟩
 unfold goodB
 rw[Bool.and_eq_true,decide_eq_true_iff,Bool.or_eq_true,decide_eq_true_iff]
 refine⟨h.2,?_⟩
 by_cases hn:x= []
 ·exact .inl (by rw[hn];rfl)
 ·exact .inr (by rw[List.getLast?_eq_some_getLast hn];exact h.1.2 hn)
theorem progIsRat_f{f:Int}{p:Bool}{x a:List Int}(hx:u32s x)(ha:u32s a)(lx:x.length< 4294967296)(la:a.length< 4294967296)(hw:f≠0→x.length+a.length< 9223372036854775808):Ev (fun k=>frac_IsRat.f k f p x a) (isRatB f p x a):=by
 unfold frac_IsRat.f isRatB
 have emp: ∀z:List Int,((z.length:Int)=0)↔z.isEmpty=true:=by intro z;cases z<;>simp;omega
 by_cases h0:f=0
 ·rw[if_pos h0]
  refine Ev.yes h0 (Ev.bind (form_dec hx lx) ?_)
  by_cases c1:canon x∧x.length≤512
  ·refine Ev.yes (fB_iff.2 c1) (Ev.bind (form_dec ha la) ?_)
   by_cases c2:canon a∧a.length≤512
   ·refine Ev.yes (fB_iff.2 c2) (Ev.bind (long_f c1.1 c1.2) ?_)
    by_cases g1:goodB x=true
    ·have l1:=(nb_long c1.1).2 (good_canon hx g1).2
     refine Ev.no (fun h=>by have:=of_decide_eq_true h;omega) (Ev.bind (long_f c2.1 c2.2) ?_)
     rw[g1,Bool.true_and]
     by_cases g2:goodB a=true
     ·have l2:=(nb_long c2.1).2 (good_canon ha g2).2
      refine Ev.no (fun h=>by have:=of_decide_eq_true h;omega) ?_
      rw[g2,Bool.true_and]
      cases e1:a.isEmpty with
      |true=>exact Ev.yes ((emp a).2 e1) (Ev.now _)
      |false=>
       refine Ev.no (fun h=>by rw[(emp a).1 h]at e1;exact absurd e1 (by decide)) ?_
       have hpa:=val_pos c2.1 (fun e=>by rw[e]at e1;simp at e1)
       have hg:=natGcdE_f c1.1 c2.1 c1.2 c2.2
       have one:=one_digit (Nat.gcd (valN x) (valN a)) (Nat.gcd_pos_of_pos_right _ hpa)
       cases p with
       |true=>
        refine Ev.yes rfl ?_
        cases e2:x.isEmpty with
        |true=>exact Ev.yes ((emp x).2 e2) (Ev.now _)
        |false=>exact Ev.no (fun h=>by rw[(emp x).1 h]at e2;exact absurd e2 (by decide)) (Ev.bind hg (Ev.con one))
       |false=>exact Ev.no (by decide) (Ev.bind hg (Ev.con one))
     ·refine Ev.yes (decide_eq_true (Nat.lt_of_not_le fun h=>g2 ((good_iff ha).2 ⟨c2.1,(nb_long c2.1).1 h⟩))) ?_
      rw[Bool.eq_false_iff.2 g2];exact Ev.now _
    ·refine Ev.yes (decide_eq_true (Nat.lt_of_not_le fun h=>g1 ((good_iff hx).2 ⟨c1.1,(nb_long c1.1).1 h⟩))) ?_
     rw[Bool.eq_false_iff.2 g1];exact Ev.now _
   ·refine Ev.no (fun h=>c2 (fB_iff.1 h)) ?_
    have g2:goodB a=false:=Bool.eq_false_iff.2 fun h=>c2 ⟨(good_canon ha h).1,by have:=(good_canon ha h).2;omega⟩
    rw[g2,Bool.false_and,Bool.and_false];exact Ev.now _
  ·refine Ev.no (fun h=>c1 (fB_iff.1 h)) ?_
   have g1:goodB x=false:=Bool.eq_false_iff.2 fun h=>c1 ⟨(good_canon hx h).1,by have:=(good_canon hx h).2;omega⟩
   rw[g1,Bool.false_and];exact Ev.now _
 ·rw[if_neg h0]
  have hw:=hw h0
  have ew:wrap64 ((x.length:Int) + (a.length:Int))=(x.length:Int) + (a.length:Int):=w64 _ (by omega)
  have hfl:frac_isFault.f f=some (decide (f=4) ||decide (f=11)):=by
   unfold frac_isFault.f
   by_cases h4:f=4
   ·rw[if_pos h4,decide_eq_true h4];rfl
   ·rw[if_neg h4,decide_eq_false h4,Bool.false_or];congr 1
  refine Ev.no h0 (Ev.bind (Ev.con hfl) ?_)
  cases hb:(decide (f=4) ||decide (f=11))with
  |false=>exact Ev.no (by decide) (Ev.now _)
  |true=>
   refine Ev.yes rfl ?_
   cases p with
   |true=>exact Ev.yes rfl (Ev.now _)
   |false=>
    refine Ev.no (by decide) (Ev.is ?_)
    rw[ew]
    congr 1
    rw[Bool.eq_iff_iff,beq_iff_eq]
    cases x<;>cases a<;>simp<;>omega
theorem val_snocN(o:List Int)(d:Nat):valN (o++ [((d:Nat):Int)])=valN o+4294967296 ^ o.length * d:=by rw[val_snoc,Int.toNat_natCast]
theorem u32s_snoc{o:List Int}(h:u32s o){d:Nat}(hd:d< 4294967296):u32s (o++ [((d:Nat):Int)]):=u32s_append.2 ⟨h,u32s_cons.2 ⟨natU hd,u32s_nil⟩⟩
theorem natAdd_l0{x y:List Int}(hx:u32s x)(hy:u32s y){m:Nat}(hxm:x.length≤m)(hym:y.length≤m)(hm:m< 4294960000): ∀d i (o:List Int) (c:Nat),i+d=m→o.length=i→u32s o→c≤1→valN o+c * 4294967296 ^ i=valN (x.take i) +valN (y.take i)→
  Ev (fun k=>nat_add.l0 k x y o c m i) (digN (valN x+valN y)):=by
 intro d
 induction d with
 |zero=>
  intro i o c hi ho hu hc hv
  have e:i=m:=by omega
  subst e
  refine Ev.step (fun k=>by rw[nat_add.l0]) ?_
  have e2:(c:Int) % 4294967296=((c:Nat):Int):=by omega
  rw[e2]
  refine Ev.no (by omega) (Ev.yes (by omega) ?_)
  rw[val_take_len hxm,val_take_len hym]at hv
  have hf:=trim_f (u32s_snoc hu (show c< 4294967296 by omega)) (by rw[List.length_append,ho];simp;omega)
  rw[val_snocN,ho,Nat.mul_comm,hv]at hf
  exact Ev.bind hf (Ev.now _)
 |succ d ih=>
  intro i o c hi ho hu hc hv
  have h1:=dgt_lt hx i
  have h2:=dgt_lt hy i
  have e0:IntKind.u64.wrap ((c:Int) +IntKind.u64.wrap (((dgt x i:Nat):Int) + ((dgt y i:Nat):Int)))=((c+ (dgt x i+dgt y i):Nat):Int):=by
   rw[u64w (((dgt x i:Nat):Int) + ((dgt y i:Nat):Int)) (by omega),u64w _ (by omega)];omega
  have e1:((c+ (dgt x i+dgt y i):Nat):Int) % 4294967296=(((c+ (dgt x i+dgt y i)) % 4294967296:Nat):Int):=by omega
  have e2:((c+ (dgt x i+dgt y i):Nat):Int) / 4294967296=(((c+ (dgt x i+dgt y i)) / 4294967296:Nat):Int):=by omega
  refine Ev.step (fun k=>by rw[nat_add.l0]) ?_
  refine Ev.yes (by omega) (Ev.bind (Ev.con (natAt_f hx i)) (Ev.bind (Ev.con (natAt_f hy i)) (Ev.yes (by omega) ?_)))
  rw[e0,e1,e2,wnx i (by omega)]
  refine ih (i+1) _ _ (by omega) (by rw[List.length_append,ho];rfl) (u32s_snoc hu (by omega)) (by omega) ?_
  rw[val_snocN,ho,val_take_succ,val_take_succ,powB]
  have hdm:=Nat.div_add_mod (c+ (dgt x i+dgt y i)) 4294967296
  generalize (c+ (dgt x i+dgt y i)) % 4294967296=r at *
  generalize (c+ (dgt x i+dgt y i)) / 4294967296=q at *
  generalize 4294967296 ^ i=B at *
  have k2:B * (4294967296 * q+r)=B * (c+ (dgt x i+dgt y i)):=by rw[hdm]
  rw[Nat.mul_add,Nat.mul_add,Nat.mul_add]at k2
  have k3:q * (B * 4294967296)=B * (4294967296 * q):=by rw[Nat.mul_comm q,Nat.mul_assoc]
  rw[k3]
  rw[Nat.mul_comm c B]at hv
  omega
theorem natAdd_f{x y:List Int}(hx:u32s x)(hy:u32s y)(hxs:x.length< 4294960000)(hys:y.length< 4294960000):Ev (fun k=>nat_add.f k x y) (digN (valN x+valN y)):=by
 unfold nat_add.f
 have em:mx (x.length:Int) (y.length:Int)=((max x.length y.length:Nat):Int):=by unfold mx;split<;>omega
 rw[em,w64 _ (by omega)]
 refine Ev.yes (by omega) (Ev.yes (by omega) ?_)
 exact natAdd_l0 hx hy (m:=max x.length y.length) (by omega) (by omega) (by omega) (max x.length y.length) 0 _ 0 (by omega) rfl u32s_nil (by omega) (by simp[valN])
theorem natSub_l0{x y:List Int}(hx:u32s x)(hy:u32s y)(hyl:y.length≤x.length)(hle:valN y≤valN x)(hm:x.length< 4294960000): ∀d i (o:List Int) (b:Nat),i+d=x.length→o.length=i→u32s o→b≤1→valN o+valN (y.take i)=valN (x.take i) +b * 4294967296 ^ i→
  Ev (fun k=>nat_sub.l0 k x y o b x.length i) (digN (valN x - valN y)):=by
 intro d
 induction d with
 |zero=>
  intro i o b hi ho hu hb hv
  have e:i=x.length:=by omega
  subst e
  refine Ev.step (fun k=>by rw[nat_sub.l0]) ?_
  refine Ev.no (by omega) ?_
  rw[val_take_len (Nat.le_refl _),val_take_len hyl]at hv
  have h1:=val_lt hu
  rw[ho]at h1
  have hb0:b=0:=by
   refine Nat.eq_zero_of_not_pos fun hp=>?_
   have:1 * 4294967296 ^ x.length≤b * 4294967296 ^ x.length:=Nat.mul_le_mul_right _ hp
   omega
  subst hb0
  have hf:=trim_f hu (by omega)
  rw[show valN o=valN x - valN y by omega]at hf
  exact Ev.bind hf (Ev.now _)
 |succ d ih=>
  intro i o b hi ho hu hb hv
  have h1:=dgt_lt hx i
  have h2:=dgt_lt hy i
  have e0:IntKind.u64.wrap (IntKind.u64.wrap (((dgt x i:Nat):Int) - ((dgt y i:Nat):Int)) - (b:Int))=(((dgt x i:Int) - dgt y i - b) + (if dgt x i< dgt y i+b then 18446744073709551616 else 0)):=by
   rw[IntKind.wrap_u64,IntKind.wrap_u64];split<;>omega
  have hr: ∃r:Nat,r< 4294967296∧ ∃b':Nat,b'≤1∧dgt x i+b' * 4294967296=dgt y i+b+r∧(((dgt x i:Int) - dgt y i - b) + (if dgt x i< dgt y i+b then 18446744073709551616 else 0)) % 4294967296=(r:Int)∧(((dgt x i:Int) - dgt y i - b) + (if dgt x i< dgt y i+b then 18446744073709551616 else 0)) / 9223372036854775808=(b':Int):=by
   by_cases hc:dgt x i< dgt y i+b
   ·exact⟨dgt x i+4294967296 - (dgt y i+b),by omega,1,by omega,by omega,by rw[if_pos hc];omega,by rw[if_pos hc];omega⟩
   ·exact⟨dgt x i - (dgt y i+b),by omega,0,by omega,by omega,by rw[if_neg hc];omega,by rw[if_neg hc];omega⟩
  obtain⟨r,hr1,b',hb',hr2,hr3,hr4⟩:=hr
  refine Ev.step (fun k=>by rw[nat_sub.l0]) ?_
  refine Ev.yes (by omega) (Ev.bind (Ev.con (natAt_f hx i)) (Ev.bind (Ev.con (natAt_f hy i)) (Ev.yes (by omega) ?_)))
  rw[e0,hr3,hr4,wnx i (by omega)]
  refine ih (i+1) _ _ (by omega) (by rw[List.length_append,ho];rfl) (u32s_snoc hu hr1) hb' ?_
  rw[val_snocN,ho,val_take_succ,val_take_succ,powB]
  generalize 4294967296 ^ i=B at *
  have k2:B * (dgt x i+b' * 4294967296)=B * (dgt y i+b+r):=by rw[hr2]
  rw[Nat.mul_add,Nat.mul_add,Nat.mul_add]at k2
  have k3:b' * (B * 4294967296)=B * (b' * 4294967296):=by rw[Nat.mul_left_comm]
  rw[k3]
  rw[Nat.mul_comm b B]at hv
  omega
theorem natSub_f{x y:List Int}(hx:u32s x)(hy:u32s y)(hyl:y.length≤x.length)(hle:valN y≤valN x)(hs:x.length< 4294960000):Ev (fun k=>nat_sub.f k x y) (digN (valN x - valN y)):=by
 unfold nat_sub.f
 refine Ev.yes (by omega) (Ev.yes (by omega) ?_)
 exact natSub_l0 hx hy hyl hle hs x.length 0 _ 0 (by omega) rfl u32s_nil (by omega) (by simp[valN])
theorem natMulE_f{x y:List Int}(hx:canon x)(hy:canon y)(hs:x.length≤512)(hys:y.length≤512):Ev (fun k=>nat_Mul.f k x y) (digN (valN x * valN y),0):=by
 unfold nat_Mul.f
 exact Ev.bind (form2 hx hy hs hys) (Ev.yes rfl (Ev.bind (natMul_f hx.1 hy.1 (by omega)) (Ev.now _)))
theorem whole_times_f{p:Bool}{x y:List Int}(hx:canon x)(hy:canon y)(hs:x.length≤512)(hys:y.length≤512):Ev (fun k=>frac_whole_times.f k p x y) (p,digN (valN x * valN y)):=by
 unfold frac_whole_times.f
 exact Ev.bind (natMulE_f hx hy hs hys) (Ev.bind (Ev.con (show frac_natural.f _ _=some _ from rfl)) (Ev.now _))
theorem whole_plus_f{p q:Bool}{x y:List Int}(hx:canon x)(hy:canon y)(hs:x.length≤512)(hys:y.length≤512): ∃s,Ev (fun k=>frac_whole_plus.f k p x q y) (s,digN (signedR p (valN x) q (valN y)).2)∧((signedR p (valN x) q (valN y)).2≠0→s=(signedR p (valN x) q (valN y)).1):=by
 unfold frac_whole_plus.f signedR
 by_cases hpq:p=q
 ·subst hpq
  rw[if_pos rfl]
  refine⟨p,Ev.yes (by simp) ?_,fun _=>rfl⟩
  unfold nat_Add.f
  exact Ev.bind (Ev.bind (form2 hx hy hs hys) (Ev.yes rfl (Ev.bind (natAdd_f hx.1 hy.1 (by omega) (by omega)) (Ev.now _)))) (Ev.bind (Ev.con (show frac_natural.f _ _=some _ from rfl)) (Ev.now _))
 ·rw[if_neg hpq]
  have hc:Ev (fun k=>nat_Compare.f k x y) (cmpI (valN x) (valN y),0):=by
   unfold nat_Compare.f
   exact Ev.bind (form2 hx hy hs hys) (Ev.yes rfl (Ev.bind (natCompare_f hx hy (by omega)) (Ev.now _)))
  have hsub: ∀ {u v:List Int},canon u→canon v→u.length≤512→v.length≤512→valN v≤valN u→Ev (fun k=>nat_Sub.f k u v) (digN (valN u - valN v),0):=by
   intro u v hu hv hsu hsv hle
   unfold nat_Sub.f
   have hge: ¬cmpI (valN u) (valN v)< 0:=by unfold cmpI;rw[if_neg (by omega)];split<;>omega
   exact Ev.bind (form2 hu hv hsu hsv) (Ev.yes rfl (Ev.bind (natCompare_f hu hv (by omega)) (Ev.no hge (Ev.bind (natSub_f hu.1 hv.1 (canon_len_le hv hu.1 hle) hle (by omega)) (Ev.now _)))))
  by_cases hlt:valN x< valN y
  ·rw[if_neg (by omega)]
   refine⟨q,Ev.no (by simpa using hpq) (Ev.bind hc (Ev.yes (by rw[cmp_lt hlt];decide) ?_)),fun _=>rfl⟩
   exact Ev.bind (hsub hy hx hys hs (by omega)) (Ev.bind (Ev.con (show frac_natural.f _ _=some _ from rfl)) (Ev.now _))
  ·rw[if_pos (by omega)]
   refine⟨p,Ev.no (by simpa using hpq) (Ev.bind hc (Ev.no (by unfold cmpI;rw[if_neg hlt];split<;>decide) ?_)),fun _=>rfl⟩
   exact Ev.bind (hsub hx hy hs hys (by omega)) (Ev.bind (Ev.con (show frac_natural.f _ _=some _ from rfl)) (Ev.now _))
theorem ratioR_sign{p q:Bool}{n d:Nat}(h:n≠0→p=q):ratioR p n d=ratioR q n d:=by
 unfold ratioR exactR
 by_cases hn:n=0
 ·rw[if_pos hn,if_pos hn]
 ·rw[h hn]
theorem fracLeast_f(a b:Int):Ev (fun k=>frac_least.f k [a,b]) (leastR a b):=by
 unfold frac_least.f leastR
 have r0:rd [a,b] 0=a:=rfl
 have r1:rd [a,b] 1=b:=rfl
 have w0:wrap64 ((0:Int) +1)=1:=by unfold wrap64;omega
 have w1:wrap64 ((1:Int) +1)=2:=by unfold wrap64;omega
 have fin: ∀c:Int,Ev (fun k=>frac_least.l0 k c [a,b] 2 2) c:=fun c=>Ev.step (fun k=>by rw[frac_least.l0]) (Ev.no (by decide) (Ev.now _))
 have two: ∀c:Int,Ev (fun k=>frac_least.l0 k c [a,b] 2 1) (if b=0 then c else if c=0 then b else if b< c then b else c):=fun c=>by
  refine Ev.step (fun k=>by rw[frac_least.l0]) ?_
  rw[r1,w1]
  refine Ev.yes (by decide) (Ev.yes (by decide) (Ev.yes (by simp) ?_))
  by_cases h1:b=0
  ·rw[if_pos h1];exact Ev.yes h1 (fin c)
  ·rw[if_neg h1]
   refine Ev.no h1 ?_
   by_cases h2:c=0
   ·rw[if_pos h2];exact Ev.yes h2 (fin b)
   ·rw[if_neg h2]
    refine Ev.no h2 ?_
    by_cases h3:b< c
    ·rw[if_pos h3];exact Ev.yes h3 (fin b)
    ·rw[if_neg h3];exact Ev.no h3 (fin c)
 refine Ev.step (fun k=>by rw[frac_least.l0]) ?_
 show Ev (fun k=>if(0:Int)< 2 then _ else _) _
 rw[r0,w0]
 refine Ev.yes (by decide) (Ev.yes (by decide) (Ev.yes (by simp) ?_))
 by_cases h1:a=0
 ·rw[if_pos h1]
  refine Ev.yes h1 ?_
  have:=two 0
  by_cases hb:b=0
  ·rw[if_pos hb]at this;rw[hb];rw[hb]at this;exact this
  ·rw[if_neg hb,if_pos rfl]at this;exact this
 ·rw[if_neg h1]
  have h2:=two a
  rw[if_neg h1]at h2
  exact Ev.no h1 (Ev.yes rfl h2)
theorem sum_len{a b:Nat}(ha:a< 4294967296 ^ 128)(hb:b< 4294967296 ^ 128):(digN (a * b)).length≤256:=by
 have:=len_digN_le (mul_pow_lt ha hb)
 omega
theorem pow_128{x:List Int}(hu:u32s x)(h:x.length≤128):valN x< 4294967296 ^ 128:=Nat.lt_of_lt_of_le (val_lt hu) (Nat.pow_le_pow_right (by decide) h)
theorem fracSum_f{f1 f2:Int}{p q:Bool}{x a y b:List Int}(hx:canon x)(ha:canon a)(hy:canon y)(hb:canon b)(lx:x.length≤128)(la:a.length≤128)(ly:y.length≤128)(lb:b.length≤128):
  Ev (fun k=>frac_sum.f k f1 p x a f2 q y b) (ratioR (signedR p (valN x * valN b) q (valN y * valN a)).1 (signedR p (valN x * valN b) q (valN y * valN a)).2 (valN a * valN b)):=by
 have hxb:=sum_len (pow_128 hx.1 lx) (pow_128 hb.1 lb)
 have hya:=sum_len (pow_128 hy.1 ly) (pow_128 ha.1 la)
 have hab:=sum_len (pow_128 ha.1 la) (pow_128 hb.1 lb)
 obtain⟨s,e1,e2⟩:=whole_plus_f (p:=p) (q:=q) (canon_digN (valN x * valN b)) (canon_digN (valN y * valN a)) (by omega) (by omega)
 rw[val_digN,val_digN]at e1 e2
 have hl:(digN (signedR p (valN x * valN b) q (valN y * valN a)).2).length≤512:=by
  have h1:=signedR_le p (valN x * valN b) q (valN y * valN a)
  have h2:=mul_pow_lt (pow_128 hx.1 lx) (pow_128 hb.1 lb)
  have h3:=mul_pow_lt (pow_128 hy.1 ly) (pow_128 ha.1 la)
  have h4:(4294967296:Nat) ^ (128+128) +4294967296 ^ (128+128)≤4294967296 ^ (128+128+1):=by rw[powB];omega
  have:=len_digN_le (k:=128+128+1) (n:=(signedR p (valN x * valN b) q (valN y * valN a)).2) (by omega)
  omega
 have hq:=quotient_f (neg:=s) (canon_digN (signedR p (valN x * valN b) q (valN y * valN a)).2) (canon_digN (valN a * valN b)) hl (by omega)
 rw[val_digN,val_digN,ratioR_sign e2]at hq
 unfold frac_sum.f
 exact Ev.bind (Ev.con (show frac_of.f f1 p x a=some (p,x)from rfl)) (Ev.bind (whole_times_f hx hb (Nat.le_trans lx (by decide)) (Nat.le_trans lb (by decide))) (Ev.bind (Ev.con (show frac_of.f f2 q y b=some (q,y)from rfl)) (Ev.bind (whole_times_f hy ha (Nat.le_trans ly (by decide)) (Nat.le_trans la (by decide))) (Ev.bind e1 (Ev.bind (natMulE_f ha hb (by omega) (by omega)) (Ev.bind (Ev.con (show frac_natural.f _ _=some _ from rfl)) (Ev.bind hq (Ev.now _))))))))
theorem isRat_facts{f:Int}{p:Bool}{x a:List Int}(hx:u32s x)(ha:u32s a)(h:isRatB f p x a=true):canon x∧canon a∧x.length≤128∧a.length≤128:=by
 unfold isRatB at h
 by_cases h0:f=0
 ·rw[if_pos h0]at h
  simp only[Bool.and_eq_true]at h
  have h1:=good_canon hx h.1
  have h2:=good_canon ha h.2.1
  exact⟨h1.1,h2.1,h1.2,h2.2⟩
 ·rw[if_neg h0]at h
  simp only[Bool.and_eq_true,List.isEmpty_iff]at h
  obtain⟨_,_,rfl,rfl⟩:=h
  exact⟨canon_nil,canon_nil,by simp,by simp⟩
def addR(f1:Int)(p:Bool)(x a:List Int)(f2:Int)(q:Bool)(y b:List Int):Int×Bool×List Int×List Int:=
 if leastR f1 f2=0 then ratioR (signedR p (valN x * valN b) q (valN y * valN a)).1 (signedR p (valN x * valN b) q (valN y * valN a)).2 (valN a * valN b)else(leastR f1 f2,false,[],[])
theorem fracAdd_f{f1 f2:Int}{p q:Bool}{x a y b:List Int}(hx:u32s x)(ha:u32s a)(hy:u32s y)(hb:u32s b)(h1:isRatB f1 p x a=true)(h2:isRatB f2 q y b=true):
  Ev (fun k=>frac_Add.f k f1 p x a f2 q y b) ((addR f1 p x a f2 q y b).1,(addR f1 p x a f2 q y b).2.1,(addR f1 p x a f2 q y b).2.2.1,(addR f1 p x a f2 q y b).2.2.2,0):=by
 obtain⟨cx,ca,lx,la⟩:=isRat_facts hx ha h1
 obtain⟨cy,cb,ly,lb⟩:=isRat_facts hy hb h2
 have e1:=progIsRat_f (f:=f1) (p:=p) hx ha (by omega) (by omega) (fun _=>by omega)
 have e2:=progIsRat_f (f:=f2) (p:=q) hy hb (by omega) (by omega) (fun _=>by omega)
 rw[h1]at e1
 rw[h2]at e2
 unfold frac_Add.f addR
 refine Ev.bind e1 (Ev.yes rfl (Ev.bind e2 (Ev.yes rfl (Ev.bind (fracLeast_f f1 f2) ?_))))
 by_cases h0:leastR f1 f2=0
 ·rw[if_pos h0]
  exact Ev.yes h0 (Ev.bind (fracSum_f cx ca cy cb lx la ly lb) (Ev.now _))
 ·rw[if_neg h0]
  exact Ev.no h0 (Ev.now _)
abbrev RatV:=Int×Bool×List Int×List Int
def validR(r:RatV):Prop:=u32s r.2.2.1∧u32s r.2.2.2∧isRatB r.1 r.2.1 r.2.2.1 r.2.2.2=true
def plusR(r s:RatV):RatV:=addR r.1 r.2.1 r.2.2.1 r.2.2.2 s.1 s.2.1 s.2.2.1 s.2.2.2
theorem val_one:valN [1] =1:=by simp[valN]
theorem val_nilN:valN [] =0:=by simp[valN]
theorem digN_one:digN 1= [1] :=by
 have h:canon [1] :=⟨u32s_cons.2 ⟨by decide,u32s_nil⟩,fun h=>by simp⟩
 rw[←digN_val h,val_one]
theorem canon_goodB{x:List Int}(h:canon x)(hl:x.length≤128):goodB x=true:=by
 unfold goodB
 rw[Bool.and_eq_true,decide_eq_true_iff,Bool.or_eq_true,decide_eq_true_iff]
 refine⟨hl,?_⟩
 by_cases hn:x= []
 ·left;rw[hn];rfl
 ·right;rw[List.getLast?_eq_some_getLast hn];exact h.2 hn
theorem nb_digN{n:Nat} :nb n≤4096↔(digN n).length≤128:=by
 have:=nb_long (canon_digN n)
 rwa [val_digN]at this
theorem isRat_zero_parts{p:Bool}{x a:List Int}(hx:u32s x)(ha:u32s a)(h:isRatB 0 p x a=true):canon x∧canon a∧x.length≤128∧a.length≤128∧a≠ [] ∧(p=true→x≠ [])∧Nat.gcd (valN x) (valN a)=1:=by
 obtain⟨h1,h2,h3,h4⟩:=isRat_facts hx ha h
 unfold isRatB at h
 rw[if_pos rfl]at h
 simp only[Bool.and_eq_true,Bool.not_eq_true',decide_eq_true_eq,Bool.and_eq_false_iff]at h
 obtain⟨_,_,h5,h6,h7⟩:=h
 refine⟨h1,h2,h3,h4,fun e=>by rw[e]at h5;simp at h5,fun hp e=>?_,h7⟩
 rcases h6 with h6|h6
 ·rw[hp]at h6;cases h6
 ·rw[e]at h6;simp at h6
theorem isRat_fault{f:Int}{p:Bool}{x a:List Int}(hf:f≠0)(h:isRatB f p x a=true):(f=4∨f=11)∧p=false∧x= [] ∧a= [] :=by
 unfold isRatB at h
 rw[if_neg hf]at h
 simp only[Bool.and_eq_true,Bool.or_eq_true,decide_eq_true_eq,Bool.not_eq_true',List.isEmpty_iff]at h
 exact⟨h.1,h.2.1,h.2.2.1,h.2.2.2⟩
theorem ratioR_self{p:Bool}{x a:List Int}(hx:u32s x)(ha:u32s a)(h:isRatB 0 p x a=true):ratioR p (valN x) (valN a)=(0,p,x,a):=by
 obtain⟨h1,h2,h3,h4,h5,h6,h7⟩:=isRat_zero_parts hx ha h
 have hd:valN a≠0:=Nat.pos_iff_ne_zero.1 (val_pos h2 h5)
 have hE:exactR p (valN x) (valN a)=(0,p,x,a):=by
  unfold exactR
  by_cases h0:valN x=0
  ·rw[if_pos h0]
   have hx0:x= [] :=by rw[←digN_val h1,h0,digN_zero]
   have hp:p=false:=by cases p with
    |false=>rfl
    |true=>exact absurd hx0 (h6 rfl)
   rw[h0,Nat.gcd_zero_left]at h7
   rw[hp,hx0,←digN_val h2,h7,digN_one]
  ·rw[if_neg h0,h7,Nat.div_one,Nat.div_one,digN_val h1,digN_val h2]
 unfold ratioR
 rw[if_neg hd,hE]
 unfold boundR
 rw[if_neg]
 rintro (h|h)
 ·have:=(nb_long h1).2 h3;simp only[]at h;omega
 ·have:=(nb_long h2).2 h4;simp only[]at h;omega
theorem isRat_whole(p:Bool){n d:Nat}(hn:n≠0)(hd:d≠0)(hg:Nat.gcd n d=1)(ln:nb n≤4096)(ld:nb d≤4096):validR (0,p,digN n,digN d):=by
 refine⟨(canon_digN n).1,(canon_digN d).1,?_⟩
 have e1:=canon_goodB (canon_digN n) (nb_digN.1 ln)
 have e2:=canon_goodB (canon_digN d) (nb_digN.1 ld)
 have n1:digN n≠ [] :=fun e=>hn (digN_nil.1 e)
 have n2:digN d≠ [] :=fun e=>hd (digN_nil.1 e)
 show isRatB 0 p (digN n) (digN d)=true
 unfold isRatB
 have e3:decide (Nat.gcd (valN (digN n)) (valN (digN d))=1)=true:=by rw[val_digN,val_digN];exact decide_eq_true hg
 rw[if_pos rfl,e1,e2,e3]
 cases h1:digN n with
 |nil=>exact absurd h1 n1
 |cons a x=>cases h2:digN d with
  |nil=>exact absurd h2 n2
  |cons b y=>simp
theorem valid_zero:validR (0,false,[],[1]):=by
 refine⟨u32s_nil,u32s_cons.2 ⟨by decide,u32s_nil⟩,?_⟩
 rfl
theorem valid_fault{f:Int}(h:f=4∨f=11):validR (f,false,[],[]):=by
 refine⟨u32s_nil,u32s_nil,?_⟩
 rcases h with rfl|rfl<;>rfl
theorem ratioR_valid(p:Bool)(n d:Nat):validR (ratioR p n d):=by
 unfold ratioR
 by_cases hd:d=0
 ·rw[if_pos hd];exact valid_fault (Or.inr rfl)
 ·rw[if_neg hd]
  unfold boundR
  by_cases hb:4096< nb (valN (exactR p n d).2.2.1)∨4096< nb (valN (exactR p n d).2.2.2)
  ·rw[if_pos hb];exact valid_fault (Or.inl rfl)
  ·rw[if_neg hb]
   unfold exactR at hb ⊢
   by_cases hn:n=0
   ·rw[if_pos hn];exact valid_zero
   ·rw[if_neg hn]at hb ⊢
    have hg:0< Nat.gcd n d:=Nat.gcd_pos_of_pos_left d (Nat.pos_of_ne_zero hn)
    simp only[val_digN,not_or,Nat.not_lt]at hb
    exact isRat_whole p (Nat.pos_iff_ne_zero.1 (Nat.div_pos (Nat.le_of_dvd (Nat.pos_of_ne_zero hn) (Nat.gcd_dvd_left n d)) hg)) (Nat.pos_iff_ne_zero.1 (Nat.div_pos (Nat.le_of_dvd (Nat.pos_of_ne_zero hd) (Nat.gcd_dvd_right n d)) hg)) (by rw[Nat.gcd_div (Nat.gcd_dvd_left n d) (Nat.gcd_dvd_right n d),Nat.div_self hg]) hb.1 hb.2
theorem valid_fault_of{r:RatV}(h:validR r)(hf:r.1≠0):(r.1=4∨r.1=11)∧r=(r.1,false,[],[]):=by
 obtain⟨f,p,x,a⟩:=r
 obtain⟨h1,rfl,rfl,rfl⟩:=isRat_fault hf h.2.2
 exact⟨h1,rfl⟩
theorem least_fault{r s:RatV}(hr:validR r)(hs:validR s)(h:leastR r.1 s.1≠0):leastR r.1 s.1=4∨leastR r.1 s.1=11:=by
 unfold leastR at h ⊢
 by_cases h1:r.1=0
 ·rw[if_pos h1]at h ⊢;exact(valid_fault_of hs h).1
 ·rw[if_neg h1]at h ⊢
  by_cases h2:s.1=0
  ·rw[if_pos h2]at h ⊢;exact(valid_fault_of hr h).1
  ·rw[if_neg h2]at h ⊢
   by_cases h3:s.1< r.1
   ·rw[if_pos h3];exact(valid_fault_of hs h2).1
   ·rw[if_neg h3];exact(valid_fault_of hr h1).1
theorem plusR_valid{r s:RatV}(hr:validR r)(hs:validR s):validR (plusR r s):=by
 unfold plusR addR
 by_cases h:leastR r.1 s.1=0
 ·rw[if_pos h];exact ratioR_valid _ _ _
 ·rw[if_neg h];exact valid_fault (least_fault hr hs h)
theorem plusR_zero{r:RatV}(hr:validR r):plusR r (0,false,[],[1])=r:=by
 unfold plusR addR
 by_cases hf:r.1=0
 ·obtain⟨f,p,x,a⟩:=r
  have hf:f=0:=hf
  subst hf
  rw[if_pos (show leastR 0 0=0 from rfl)]
  show ratioR (signedR p (valN x * valN [1]) false (valN [] * valN a)).1 (signedR p (valN x * valN [1]) false (valN [] * valN a)).2 (valN a * valN [1])=_
  rw[val_one,val_nilN,Nat.mul_one,Nat.mul_one,Nat.zero_mul,show signedR p (valN x) false 0=(p,valN x)from by unfold signedR;cases p<;>simp]
  exact ratioR_self hr.1 hr.2.1 hr.2.2
 ·have e:=valid_fault_of hr hf
  have hl:leastR r.1 0=r.1:=by unfold leastR;rw[if_neg hf,if_pos rfl]
  rw[if_neg (by rw[hl];exact hf)]
  show(leastR r.1 0,false,[],[])=r
  rw[hl];exact e.2.symm
theorem ratioR_zero1:ratioR false 0 1=(0,false,[],[1]):=by
 have:=ratioR_self (p:=false) (x:= []) (a:= [1]) valid_zero.1 valid_zero.2.1 valid_zero.2.2
 rwa [val_nilN,val_one]at this
theorem size_f{n:Nat}(h:n< 9223372036854775808):Ev (fun k=>frac_size.f k (n:Int)) (false,digN n):=by
 unfold frac_size.f
 refine Ev.no (by omega) ?_
 rw[u64w (n:Int) (by omega)]
 exact Ev.bind (natOf_f n (by omega)) (Ev.now _)
theorem wholeN_f{n:Nat}(h:n< 9223372036854775808):Ev (fun k=>sparse_whole.f k (n:Int)) (ratioR false n 1):=by
 have l:(digN n).length≤2:=len_digN_le (by omega)
 have l1:(digN 1).length≤2:=len_digN_le (by omega)
 have hq:=quotient_f (neg:=false) (canon_digN n) (canon_digN 1) (by omega) (by omega)
 rw[val_digN,val_digN]at hq
 unfold sparse_whole.f frac_Of.f
 exact Ev.bind (Ev.bind (size_f h) (Ev.bind (size_f (n:=1) (by decide)) (Ev.bind hq (Ev.now _)))) (Ev.now _)
theorem refOfN_f{n:Nat}(h:n< 9223372036854775808):Ev (fun k=>fluxionref02_Of.f k (n:Int) 1) (ratioR false n 1):=by
 unfold fluxionref02_Of.f fluxionref02_size.f
 rw[if_neg (by omega),if_neg (by omega),u64w (n:Int) (by omega),u64w 1 (by omega),decide_eq_false (show¬ (n:Int)< 0 by omega),decide_eq_false (show¬ (1:Int)< 0 by omega)]
 refine Ev.bind (Ev.now _) (Ev.bind (refOf01_f n (by omega)) (Ev.bind (Ev.now _) (Ev.bind (refOf01_f 1 (by omega)) (Ev.bind (refRatioN_f (L:=2) (by omega) (by omega) (by omega)) (Ev.now _)))))
def rv(x:S59):RatV:=(x.f0,x.f1,x.f2,x.f3)
def sv(r:RatV):S59:=⟨r.1,r.2.1,r.2.2.1,r.2.2.2⟩
def sumV(c:Int):List Int→List S59→RatV→RatV
 |d::ds,x::xs,acc=>sumV c ds xs (if d=c∨x.f0≠0 then plusR acc (rv x)else acc)
 |_,_,acc=>acc
theorem squeezeSum_f{c:Int} : ∀ (ds:List Int) (xs:List S59) (acc:RatV),ds.length=xs.length→(∀x,x∈xs→validR (rv x))→validR acc→Ev (fun k=>squeezeSum k c ds xs (sv acc)) (sv (sumV c ds xs acc))∧validR (sumV c ds xs acc)
 | [],[],acc,_,_,ha=>⟨Ev.con rfl,ha⟩
 | [],_::_,_,h,_,_=>by simp at h
 |_::_,[],_,h,_,_=>by simp at h
 |d::ds,x::xs,acc,h,hv,ha=>by
  have hx:=hv x (List.mem_cons_self ..)
  have hl:ds.length=xs.length:=by simpa using h
  by_cases hc:d=c∨x.f0≠0
  ·have ih:=squeezeSum_f (c:=c) ds xs (plusR acc (rv x)) hl (fun y hy=>hv y (List.mem_cons_of_mem _ hy)) (plusR_valid ha hx)
   refine⟨?_,by unfold sumV;rw[if_pos hc];exact ih.2⟩
   have e:=fracAdd_f ha.1 ha.2.1 hx.1 hx.2.1 ha.2.2 hx.2.2
   unfold squeezeSum sumV
   rw[if_pos hc]
   exact Ev.yes hc (Ev.bind e ih.1)
  ·have ih:=squeezeSum_f (c:=c) ds xs acc hl (fun y hy=>hv y (List.mem_cons_of_mem _ hy)) ha
   refine⟨?_,by unfold sumV;rw[if_neg hc];exact ih.2⟩
   unfold squeezeSum sumV
   rw[if_neg hc]
   exact Ev.no hc ih.1
def rowV(l1:List Int)(row:List S59):Nat→Nat→List S59→List S59
 |0,_,acc=>acc
 |n+1,c,acc=>rowV l1 row n (c+1) (acc++ [sv (sumV (c:Int) l1 row (0,false,[],[1]))])
theorem squeezeRow_f{l1:List Int}{row:List S59}(hl:l1.length=row.length)(hv: ∀x,x∈row→validR (rv x)): ∀n c acc,Ev (fun k=>squeezeRow k l1 row n c acc) (rowV l1 row n c acc)
 |0,_,_=>Ev.con rfl
 |n+1,c,acc=>by
  unfold squeezeRow rowV
  have h0:=wholeN_f (n:=0) (by decide)
  rw[ratioR_zero1]at h0
  exact Ev.bind h0 (Ev.bind (squeezeSum_f l1 row (0,false,[],[1]) hl hv valid_zero).1 (squeezeRow_f hl hv n (c+1) _))
def rowsV(l1:List Int)(m:Nat):List (List S59)→List (List S59)→List (List S59)
 | [],acc=>acc
 |row::l,acc=>rowsV l1 m l (acc++ [rowV l1 row m 0 []])
theorem squeezeRows_f{l1:List Int}{m:Nat} : ∀ (l:List (List S59)) acc,(∀row,row∈l→l1.length=row.length∧ ∀x,x∈row→validR (rv x))→Ev (fun k=>squeezeRows k l1 m l acc) (rowsV l1 m l acc)
 | [],_,_=>Ev.con rfl
 |row::l,acc,h=>by
  unfold squeezeRows rowsV
  have h1:=h row (List.mem_cons_self ..)
  exact Ev.bind (squeezeRow_f h1.1 h1.2 m 0 []) (squeezeRows_f l _ (fun r hr=>h r (List.mem_cons_of_mem _ hr)))
theorem valid_len{r:RatV}(h:validR r):r.2.2.1.length≤1000∧r.2.2.2.length≤1000:=by
 obtain⟨_,_,h3,h4⟩:=isRat_facts h.1 h.2.1 h.2.2
 omega
def u32R(x:S59):Prop:=u32s x.f2∧u32s x.f3∧x.f2.length< 1000000∧x.f3.length< 1000000
def okR(x:S59):Bool:=isRatB x.f0 x.f1 x.f2 x.f3
theorem ev_all{α β:Type}{f:Nat→α→Option β}{v:α→β} : ∀ (l:List α),(∀x,x∈l→Ev (fun k=>f k x) (v x))→ ∃K,∀k,K≤k→ ∀x,x∈l→f k x=some (v x)
 | [],_=>⟨0,fun _ _ x hx=>by cases hx⟩
 |a::l,h=>by
  obtain⟨K1,h1⟩:=h a (List.mem_cons_self ..)
  obtain⟨K2,h2⟩:=ev_all l (fun x hx=>h x (List.mem_cons_of_mem _ hx))
  refine⟨max K1 K2,fun k hk x hx=>?_⟩
  rcases List.mem_cons.1 hx with rfl|hx
  ·exact h1 k (by omega)
  ·exact h2 k (by omega) x hx
theorem ratOf_f{x:S59}(h:u32R x):Ev (fun k=>ratOf k x) (okR x):=progIsRat_f h.1 h.2.1 (by have:=h.2.2.1;omega) (by have:=h.2.2.2;omega) (fun _=>by have:=h.2.2.1;have:=h.2.2.2;omega)
theorem progSqueeze_ok{l0:List (List S59)}{l1:List Int}{m:Nat}(hs:Ev (fun k=>sparse_seeded.f k l1) ((m:Int),0))(hm:m≤4096)(hl:l0.length≤4096)(hr: ∀row,row∈l0→row.length=l1.length)(hu: ∀row,row∈l0→ ∀x,x∈row→u32R x):
  Ev (fun k=>sparse_Squeeze.f k l0 l1) (if l0.any (fun row=>row.any (fun x=>!okR x))=true then([],5)else(rowsV l1 m l0 [],0)):=by
 obtain⟨K,hK⟩:=ev_all (f:=fun k x=>ratOf k x) (v:=okR) l0.flatten (fun x hx=>by
  obtain⟨row,hr1,hx1⟩:=List.mem_flatten.1 hx
  exact ratOf_f (hu row hr1 x hx1))
 have hrow: ∀k,K≤k→ ∀row,row∈l0→ ∀x,x∈row→ratOf k x=some (okR x):=fun k hk row hr1 x hx=>hK k hk x (List.mem_flatten.2 ⟨row,hr1,hx⟩)
 have hany: ∀k,K≤k→l0.any (badRow k)=l0.any (fun row=>row.any (fun x=>!okR x)):=fun k hk=>by
  rw[Bool.eq_iff_iff,List.any_eq_true,List.any_eq_true]
  constructor
  ·rintro ⟨row,h1,h2⟩
   obtain⟨x,hx,h3⟩:=List.any_eq_true.1 h2
   rw[hrow k hk row h1 x hx]at h3
   exact⟨row,h1,List.any_eq_true.2 ⟨x,hx,by cases h:okR x<;>simp_all⟩⟩
  ·rintro ⟨row,h1,h2⟩
   obtain⟨x,hx,h3⟩:=List.any_eq_true.1 h2
   refine⟨row,h1,List.any_eq_true.2 ⟨x,hx,?_⟩⟩
   rw[hrow k hk row h1 x hx]
   cases h:okR x<;>simp_all
 have hall: ∀k,K≤k→l0.all (fun row=>row.all (fun x=>(ratOf k x).isSome))=true:=fun k hk=>List.all_eq_true.2 (fun row h1=>List.all_eq_true.2 (fun x hx=>by rw[hrow k hk row h1 x hx];rfl))
 have key:Ev (fun k=>if l0.all (fun row=>row.all (fun x=>(ratOf k x).isSome))=true then(if l0.any (badRow k)=true then some (([] :List (List S59)),(5:Int))else if 0≤(m:Int)∧(m:Int)≤4096 then(squeezeRows k l1 (m:Int).toNat l0 []).bind fun o=>some (o,0)else none)else none) (if l0.any (fun row=>row.any (fun x=>!okR x))=true then([],5)else(rowsV l1 m l0 [],0)):=by
  by_cases hb:l0.any (fun row=>row.any (fun x=>!okR x))=true
  ·rw[if_pos hb]
   exact⟨K,fun k hk=>by dsimp only;rw[if_pos (hall k hk),hany k hk,if_pos hb]⟩
  ·rw[if_neg hb]
   have hv: ∀row,row∈l0→l1.length=row.length∧ ∀x,x∈row→validR (rv x):=fun row h1=>⟨(hr row h1).symm,fun x hx=>⟨(hu row h1 x hx).1,(hu row h1 x hx).2.1,by
    have h2:=List.any_eq_false.1 (Bool.eq_false_iff.2 hb) row h1
    have h3:=List.any_eq_false.1 (Bool.eq_false_iff.2 h2) x hx
    show okR x=true
    cases h:okR x
    ·rw[h]at h3;exact absurd rfl h3
    ·rfl⟩⟩
   obtain⟨K2,hK2⟩:=squeezeRows_f (l1:=l1) (m:=m) l0 [] hv
   refine⟨max K K2,fun k hk=>?_⟩
   dsimp only
   rw[if_pos (hall k (by omega)),hany k (by omega),if_neg hb,if_pos (by omega),Int.toNat_natCast,show squeezeRows k l1 m l0 [] =_ from hK2 k (by omega)]
   rfl
 unfold sparse_Squeeze.f
 refine Ev.bind hs (Ev.no (by simp) (Ev.no (by omega) (Ev.no ?_ key)))
 rw[Bool.not_eq_true]
 exact List.any_eq_false.2 (fun row h1=>by rw[hr row h1];simp)
def topV:List Int→Int→Int
 | [],t=>t
 |d::l,t=>topV l (mx t (d+1))
def inR(n:Nat)(x:Int):Bool:=decide (0≤x) && decide (x< (n:Int))
theorem inR_iff{n:Nat}{x:Int} :inR n x=true↔0≤x∧x< (n:Int):=by unfold inR;simp
theorem mx_le{a b c:Int}(h1:a≤c)(h2:b≤c):mx a b≤c:=by unfold mx;split<;>omega
theorem mx_ge{a b:Int} :a≤mx a b:=by unfold mx;split<;>omega
theorem topV_bound{n:Nat} : ∀ (l:List Int) (t:Int),(∀x,x∈l→inR n x=true)→0≤t→t≤n→0≤topV l t∧topV l t≤n
 | [],t,_,h0,h1=>⟨h0,h1⟩
 |d::l,t,h,h0,h1=>by
  have hd:=inR_iff.1 (h d (List.mem_cons_self ..))
  exact topV_bound l (mx t (d+1)) (fun x hx=>h x (List.mem_cons_of_mem _ hx)) (Int.le_trans h0 mx_ge) (mx_le h1 (by omega))
theorem rd_at{q:List Int}{i:Nat}(h:i< q.length):rd q (i:Int)=q[i] :=by unfold rd;rw[Int.toNat_natCast];simp[h]
theorem seeded_l0{q:List Int}(hq:q.length≤4096): ∀d i t,i+d=q.length→0≤t→t≤(q.length:Int)→Ev (fun k=>sparse_seeded.l0 k q t q q.length ((i:Nat):Int)) (if(q.drop i).all (inR q.length)=true then(topV (q.drop i) t,0)else(0,2)):=by
 intro d
 induction d with
 |zero=>
  intro i t hi h0 h1
  refine Ev.step (fun k=>by rw[sparse_seeded.l0]) ?_
  refine Ev.no (by omega) (Ev.is ?_)
  rw[List.drop_eq_nil_of_le (by omega)];rfl
 |succ d ih=>
  intro i t hi h0 h1
  have hl:i< q.length:=by omega
  refine Ev.step (fun k=>by rw[sparse_seeded.l0]) ?_
  rw[rd_at hl,List.drop_eq_getElem_cons hl,List.all_cons,topV]
  generalize q[i] =x
  refine Ev.yes (by omega) (Ev.yes (by omega) (Ev.yes (by omega) ?_))
  by_cases hx0:x< 0
  ·refine Ev.yes hx0 (Ev.is ?_)
   rw[if_neg (by rw[Bool.and_eq_true,inR_iff];omega)]
  ·refine Ev.no hx0 ?_
   by_cases hx1:x≥(q.length:Int)
   ·refine Ev.yes hx1 (Ev.is ?_)
    rw[if_neg (by rw[Bool.and_eq_true,inR_iff];omega)]
   ·refine Ev.no hx1 ?_
    rw[w64 (x+1) (by omega),w64 ((i:Int) +1) (by omega),show inR q.length x=true from inR_iff.2 (by omega),Bool.true_and]
    exact ih (i+1) (mx t (x+1)) (by omega) (Int.le_trans h0 mx_ge) (mx_le h1 (by omega))
def seededV(q:List Int):Int×Int:=if 4096< q.length then(0,3)else if q.all (inR q.length)=true then(topV q 0,0)else(0,2)
theorem seeded_f(q:List Int):Ev (fun k=>sparse_seeded.f k q) (seededV q):=by
 unfold sparse_seeded.f seededV
 by_cases h:4096< q.length
 ·rw[if_pos h];exact Ev.yes (by omega) (Ev.now _)
 ·rw[if_neg h]
  refine Ev.no (by omega) ?_
  have:=seeded_l0 (q:=q) (by omega) q.length 0 0 (by omega) (by omega) (by omega)
  rwa [List.drop_zero]at this
theorem digits_refl{x:List Int}(hs:x.length< 4294967296):Ev (fun k=>fluxionref02_digits.f k x x) true:=by
 have h: ∀d i,i+d=x.length→Ev (fun k=>fluxionref02_digits.l0 k x x ((i:Nat):Int)) true:=by
  intro d
  induction d with
  |zero=>intro i hi;refine Ev.step (fun k=>by rw[fluxionref02_digits.l0]) ?_;exact Ev.no (by omega) (Ev.now _)
  |succ d ih=>
   intro i hi
   refine Ev.step (fun k=>by rw[fluxionref02_digits.l0]) ?_
   rw[w64 ((i:Int) +1) (by omega)]
   exact Ev.yes (by omega) (Ev.yes (by omega) (Ev.yes (by omega) (Ev.yes rfl (ih (i+1) (by omega)))))
 unfold fluxionref02_digits.f
 exact Ev.yes rfl (h x.length 0 (by omega))
theorem equal_refl{f:Int}{p:Bool}{x a:List Int}(hx:x.length< 4294967296)(ha:a.length< 4294967296):Ev (fun k=>fluxionref02_Equal.f k f p x a f p x a) true:=by
 unfold fluxionref02_Equal.f
 exact Ev.yes rfl (Ev.yes (by simp) (Ev.bind (digits_refl hx) (Ev.yes rfl (Ev.bind (digits_refl ha) (Ev.now _)))))
theorem numbers_refl{l:List S59}(hs:l.length< 4294967296)(hl: ∀x,x∈l→x.f2.length< 4294967296∧x.f3.length< 4294967296):Ev (fun k=>fluxionref11_Numbers.f k l l) true:=by
 have h: ∀d i,i+d=l.length→Ev (fun k=>fluxionref11_Numbers.l0 k l l ((i:Nat):Int)) true:=by
  intro d
  induction d with
  |zero=>intro i hi;refine Ev.step (fun k=>by rw[fluxionref11_Numbers.l0]) ?_;exact Ev.no (by omega) (Ev.now _)
  |succ d ih=>
   intro i hi
   have hlt:i< l.length:=by omega
   have ex:rd_T59 l (i:Int)=l[i] :=by unfold rd_T59;rw[Int.toNat_natCast];simp[hlt]
   have hx:=hl l[i] (List.getElem_mem hlt)
   refine Ev.step (fun k=>by rw[fluxionref11_Numbers.l0]) ?_
   rw[ex,w64 ((i:Int) +1) (by omega)]
   exact Ev.yes (by omega) (Ev.yes (by omega) (Ev.yes (by omega) (Ev.bind (equal_refl hx.1 hx.2) (Ev.yes rfl (ih (i+1) (by omega))))))
 unfold fluxionref11_Numbers.f
 exact Ev.yes rfl (h l.length 0 (by omega))
theorem same_refl{l:List (List S59)}(hs:l.length< 4294967296)(hl: ∀row,row∈l→row.length< 4294967296∧ ∀x,x∈row→x.f2.length< 4294967296∧x.f3.length< 4294967296):Ev (fun k=>fluxionref14_Same.f k l l) true:=by
 have h: ∀d i,i+d=l.length→Ev (fun k=>fluxionref14_Same.l0 k l l ((i:Nat):Int)) true:=by
  intro d
  induction d with
  |zero=>intro i hi;refine Ev.step (fun k=>by rw[fluxionref14_Same.l0]) ?_;exact Ev.no (by omega) (Ev.now _)
  |succ d ih=>
   intro i hi
   have hlt:i< l.length:=by omega
   have ex:rd_L5 l (i:Int)=l[i] :=by show l.getD (Int.toNat i) [] =_;rw[Int.toNat_natCast];simp[hlt]
   have hx:=hl l[i] (List.getElem_mem hlt)
   refine Ev.step (fun k=>by rw[fluxionref14_Same.l0]) ?_
   rw[ex,w64 ((i:Int) +1) (by omega)]
   exact Ev.yes (by omega) (Ev.yes (by omega) (Ev.yes (by omega) (Ev.bind (numbers_refl hx.1 hx.2) (Ev.yes rfl (ih (i+1) (by omega))))))
 unfold fluxionref14_Same.f
 exact Ev.yes rfl (h l.length 0 (by omega))
def mt(P:List (List Bool))(a b:Nat):Bool:=P.any fun row=>row.getD a false && row.getD b false
def okc(P:List (List Bool))(q:List Int)(i j:Nat):Prop:=q.getD i 0=q.getD j 0→mt P i j=false
def fitP(P:List (List Bool))(q:List Int):Prop:= ∀i j,j< i→i< q.length→okc P q i j
noncomputable instance fitDec (P:List (List Bool)) (q:List Int):Decidable (fitP P q):=Classical.propDecidable _
theorem gdl{α:Type}{p s:List α}{d:α}{i:Nat}(h:i< p.length):(p++s).getD i d=p.getD i d:=by simp[List.getD_eq_getElem?_getD,List.getElem?_append_left h]
theorem fitP_nil(P:List (List Bool)):fitP P [] :=fun _ _ _ h=>absurd h (Nat.not_lt_zero _)
theorem fitP_snoc{P:List (List Bool)}{p:List Int}{c:Int}(h:fitP P p):fitP P (p++ [c])↔ ∀o,o< p.length→p.getD o 0=c→mt P p.length o=false:=by
 constructor
 ·intro hf o ho hc
  apply hf p.length o ho (by simp)
  rw[gdl ho,hc];simp
 ·intro hf i j hj hi hq
  simp at hi
  by_cases hi':i< p.length
  ·rw[gdl hi',gdl (by omega)]at hq
   exact h i j hj hi' hq
  ·have:i=p.length:=by omega
   subst this
   rw[gdl hj]at hq
   exact hf j hj (by rw[←hq];simp)
def formB(P:List (List Bool))(n:Int):Bool:=decide (0≤n) && decide (n≤4096) && P.all fun row=>decide ((row.length:Int)=n)
theorem form_is{P:List (List Bool)}(hP:P.length< 4096)(n:Int):sparse_form.f P n=some (if formB P n=true then 0 else 2):=by
 unfold sparse_form.f formB
 rw[if_neg (by omega)]
 by_cases h0:n< 0
 ·rw[if_pos h0,if_neg (by simp;omega)]
 ·by_cases h1:n >4096
  ·rw[if_neg h0,if_pos h1,if_neg (by simp;omega)]
  ·rw[if_neg h0,if_neg h1]
   by_cases h2:P.any (fun x=>decide (¬ (x.length:Int)=n))=true
   ·rw[if_pos h2,if_neg]
    simp at h2 ⊢
    exact fun _ _=>h2
   ·rw[if_neg h2,if_pos]
    simp at h2 ⊢
    exact⟨⟨by omega,by omega⟩,h2⟩
theorem form_rows{P:List (List Bool)}{n:Nat}(h:formB P n=true): ∀row∈P,row.length=n:=by
 unfold formB at h;simp at h
 intro row hr;have:=h.2 row hr;omega
theorem refInts_l0{x y:List Int}(hl:x.length=y.length)(hx:x.length< 4611686018427387904): ∀d i,i+d=x.length→(∀j,j< i→x.getD j 0=y.getD j 0)→Ev (fun k=>fluxionref08_Ints.l0 k x y i) (decide (x=y))
 |0,i,hi,h=>by
  refine Ev.step (fun k=>by rw[fluxionref08_Ints.l0]) ?_
  refine Ev.no (by omega) (Ev.is (Eq.symm (decide_eq_true ?_)))
  apply List.ext_getElem hl
  intro j h1 h2
  have:=h j (by omega)
  simpa [List.getD_eq_getElem?_getD,h1,h2]using this
 |d+1,i,hi,h=>by
  refine Ev.step (fun k=>by rw[fluxionref08_Ints.l0]) ?_
  refine Ev.yes (by omega) (Ev.yes (by omega) (Ev.yes (by omega) ?_))
  rw[wnx i (by omega)]
  have e1:rd x (i:Int)=x.getD i 0:=rfl
  have e2:rd y (i:Int)=y.getD i 0:=rfl
  rw[e1,e2]
  by_cases hc:x.getD i 0=y.getD i 0
  ·refine Ev.yes hc (refInts_l0 hl hx d (i+1) (by omega) fun j hj=>?_)
   by_cases h2:j< i
   ·exact h j h2
   ·have:j=i:=by omega
    rw[this];exact hc
  ·exact Ev.no hc (Ev.is (Eq.symm (decide_eq_false fun h'=>hc (by rw[h']))))
theorem refInts_f{x y:List Int}(hx:x.length< 4611686018427387904):Ev (fun k=>fluxionref08_Ints.f k x y) (decide (x=y)):=by
 unfold fluxionref08_Ints.f
 by_cases hl:x.length=y.length
 ·exact Ev.yes (by omega) (refInts_l0 hl hx x.length 0 (by omega) (fun j h=>absurd h (Nat.not_lt_zero _)))
 ·exact Ev.no (by omega) (Ev.is (Eq.symm (decide_eq_false fun h=>hl (by rw[h]))))
theorem row_L1{P:List (List Bool)}{i:Nat}(h:i< P.length):rd_L6 P (i:Int)=P[i] :=by show P.getD i [] =_;simp[List.getD_eq_getElem?_getD,h]
def Tk(P:List (List Bool))(out:List Int)(c:Int):Prop:= ∃b,b< out.length∧out.getD b 0=c∧mt P out.length b=true
theorem few_of_mem: ∀ (c:Nat) (l:List Int),(∀c':Nat,c'< c→(c':Int)∈l)→c≤l.length
 |0,_,_=>Nat.zero_le _
 |c+1,l,h=>by
  have h1:=h c (by omega)
  have:=few_of_mem c (l.erase (c:Int)) fun c' h'=>(List.mem_erase_of_ne (by omega)).2 (h c' (by omega))
  rw[List.length_erase_of_mem h1]at this
  have:=List.length_pos_of_mem h1
  omega
def deg(P:List (List Bool))(a n:Nat):Nat:=((List.range n).filter fun b=>mt P a b).length
theorem tk_few{P:List (List Bool)}{out:List Int}{c:Nat}(h: ∀c':Nat,c'< c→Tk P out c'):c≤deg P out.length out.length:=by
 have:=few_of_mem c (((List.range out.length).filter fun b=>mt P out.length b).map fun b=>out.getD b 0) fun c' h'=>by
  obtain⟨b,hb,hc,hm⟩:=h c' h'
  rw[List.mem_map]
  exact⟨b,by rw[List.mem_filter,List.mem_range];exact⟨hb,hm⟩,hc⟩
 rw[List.length_map]at this;exact this
theorem deg_le(P:List (List Bool))(a n:Nat):deg P a n≤n:=by
 unfold deg;exact Nat.le_trans (List.length_filter_le _ _) (by simp)
theorem free_is(P:List (List Bool))(out:List Int): ∃c:Nat,c≤deg P out.length out.length∧ ¬Tk P out c∧ ∀c':Nat,c'< c→Tk P out c':=by
 have: ∀d c,c+d=deg P out.length out.length+1→(∀c':Nat,c'< c→Tk P out c')→ ∃c:Nat,c≤deg P out.length out.length∧ ¬Tk P out c∧ ∀c':Nat,c'< c→Tk P out c':=by
  intro d
  induction d with
  |zero=>intro c hc h;have:=tk_few h;omega
  |succ d ih=>
   intro c hc h
   by_cases ht:Tk P out c
   ·refine ih (c+1) (by omega) fun c' h'=>?_
    by_cases h2:c'< c
    ·exact h c' h2
    ·have:c'=c:=by omega
     rw[this];exact ht
   ·exact⟨c,tk_few h,ht,h⟩
 exact this (deg P out.length out.length+1) 0 (by omega) fun c' h=>absurd h (Nat.not_lt_zero _)
theorem free_fit{P:List (List Bool)}{out:List Int}{c:Int}(h:fitP P out)(hc: ¬Tk P out c):fitP P (out++ [c]):=by
 rw[fitP_snoc h];intro o ho he
 cases hm:mt P out.length o with
 |false=>rfl
 |true=>exact absurd ⟨o,ho,he,hm⟩ hc
theorem taken_is{P:List (List Bool)}{out:List Int}{c:Int} :takenF P (fun r=>seenAt (P.getD r []) out out.length) out.length c=true↔Tk P out c:=by
 unfold takenF seenAt Tk mt
 simp only[List.any_eq_true,Bool.and_eq_true,List.mem_range,beq_iff_eq]
 constructor
 ·rintro ⟨r,hr,h1,j,hj,h2,h3⟩
  refine⟨j,hj,h3,P.getD r [],?_,h1,h2⟩
  rw[List.getD_eq_getElem?_getD,List.getElem?_eq_getElem hr];exact List.getElem_mem hr
 ·rintro ⟨b,hb,h1,row,hrow,h2,h3⟩
  obtain⟨r,hr,rfl⟩:=List.getElem_of_mem hrow
  have e:P.getD r [] =P[r] :=by rw[List.getD_eq_getElem?_getD,List.getElem?_eq_getElem hr];rfl
  exact⟨r,hr,by rw[e];exact h2,b,hb,by rw[e];exact h3,h1⟩
theorem colPick_is{P:List (List Bool)}{out:List Int}{cs:Nat}(hc: ¬Tk P out cs)(hl: ∀c':Nat,c'< cs→Tk P out c'): ∀d c n,c+d=cs→d< n→colPick P out n c=some (cs:Int)
 |0,c,n+1,h,_=>by
  have e:c=cs:=by omega
  subst e
  rw[colPick,if_neg (fun h=>hc (taken_is.1 h))]
 |d+1,c,n+1,h,hn=>by
  rw[colPick,if_pos (taken_is.2 (hl c (by omega)))]
  exact colPick_is hc hl d (c+1) n (by omega) (by omega)
theorem greedy{P:List (List Bool)}{n:Nat}(hn':n< 4096): ∀d out,out.length+d=n→fitP P out→(∀i,i< out.length→0≤out.getD i 0∧out.getD i 0≤deg P i i)→
  ∃L,colGo P d out=some L∧fitP P L∧L.length=n∧ ∀i,i< n→0≤L.getD i 0∧L.getD i 0≤deg P i i
 |0,out,ho,hf,hb=>⟨out,rfl,hf,by omega,fun i hi=>hb i (by omega)⟩
 |d+1,out,ho,hf,hb=>by
  obtain⟨cs,h1,h2,h3⟩:=free_is P out
  have hdl:=deg_le P out.length out.length
  obtain⟨L,g1,g3⟩:=greedy hn' d (out++ [(cs:Int)]) (by simp;omega) (free_fit hf h2) (fun i hi=>by
   simp at hi
   by_cases h:i< out.length
   ·rw[gdl h];exact hb i h
   ·have:i=out.length:=by omega
    subst this;simp;omega)
  refine⟨L,?_,g3⟩
  rw[colGo,show(0:Int)=((0:Nat):Int)from rfl,colPick_is h2 h3 cs 0 (out.length+1) (by omega) (by omega)];exact g1
theorem fitRows_is{P:List (List Bool)}{n:Nat}(hn: ∀row∈P,row.length=n){cs:List Int}(hc:cs.length=n):(P.all fun row=>fitRow row cs)=decide (fitP P cs):=by
 rw[Bool.eq_iff_iff,decide_eq_true_iff,List.all_eq_true]
 unfold fitRow fitAt seenAt
 constructor
 ·intro h i j hj hi he
  cases hm:mt P i j with
  |false=>rfl
  |true=>
   exfalso
   unfold mt at hm
   rw[List.any_eq_true]at hm
   obtain⟨row,hr,hb⟩:=hm
   have:=h row hr
   rw[List.all_eq_true]at this
   have:=this i (List.mem_range.2 (by rw[hn row hr];omega))
   rw[Bool.and_eq_true]at hb
   rw[hb.1,Bool.true_and,Bool.not_eq_true',List.any_eq_false]at this
   have:=this j (List.mem_range.2 hj)
   rw[hb.2,he]at this;simp at this
 ·intro h row hr
  rw[List.all_eq_true]
  intro i hi
  rw[List.mem_range,hn row hr]at hi
  rw[Bool.not_eq_true',Bool.and_eq_false_iff]
  by_cases h1:row.getD i false=true
  ·right
   rw[List.any_eq_false]
   intro j hj hb
   rw[List.mem_range]at hj
   rw[Bool.and_eq_true,beq_iff_eq]at hb
   have:=h i j hj (by omega) hb.2.symm
   unfold mt at this
   rw[List.any_eq_false]at this
   exact this row hr (by rw[h1,hb.1];rfl)
  ·left;rw[Bool.not_eq_true]at h1;exact h1
def numB(n:Int)(c:List Int):Bool:=decide ((c.length:Int)=n) && c.all fun x=>decide (0≤x)
theorem painted_is(n:Int)(c:List Int):sparse_painted.f n c=some (if numB n c=true then 0 else 2):=by
 unfold sparse_painted.f numB
 by_cases h:(c.length:Int)=n
 ·rw[if_neg (by simpa using h)]
  by_cases h2:c.any (fun x=>decide (x< 0))=true
  ·rw[if_pos h2,if_neg]
   simp at h2 ⊢;exact fun _=>h2
  ·rw[if_neg h2,if_pos]
   simp at h2 ⊢;exact⟨h,h2⟩
 ·rw[if_pos h,if_neg];simp[h]
theorem sparseColours_ok{P:List (List Bool)}(hP:P.length< 4096){n:Nat}(hf:formB P n=true){L:List Int}(hL:colGo P n [] =some L):sparse_Colours.f P n=some (L,0):=by
 have hb:n≤4096:=by unfold formB at hf;simp at hf;omega
 have:sparse_colours.f P n=some L:=by
  unfold sparse_colours.f
  rw[if_pos,Int.toNat_natCast,hL]
  simp only[Bool.and_eq_true,decide_eq_true_iff,List.all_eq_true]
  exact⟨⟨by omega,by omega⟩,fun row hr=>by rw[form_rows hf row hr];simp⟩
 unfold sparse_Colours.f
 rw[form_is hP,if_pos hf]
 simp only[Option.bind_some]
 rw[if_pos trivial,this];rfl
theorem getD_at{α:Type}{l:List α}{i:Nat}{d:α}(h:i< l.length):l.getD i d=l[i] :=by rw[List.getD_eq_getElem?_getD,List.getElem?_eq_getElem h];rfl
theorem val_pos{x:List Int}(h:canon x)(hx:x≠ []):valN x≠0:=fun e=>hx (by rw[←digN_val h,e];simp[digN])
theorem plusZ_left{r:RatV}(hr:validR r)(hf:r.1=0):plusR (0,false,[],[1]) r=r:=by
 obtain⟨f,p,x,a⟩:=r
 have hf:f=0:=hf
 subst hf
 obtain⟨cx,ca,_,_,_,hp,_⟩:=isRat_zero_parts (p:=p) (x:=x) (a:=a) hr.1 hr.2.1 hr.2.2
 have hS:signedR false 0 p (valN x)=(p,valN x):=by
  unfold signedR
  cases p with
  |false=>simp
  |true=>
   have:=val_pos cx (hp rfl)
   rw[if_neg (by decide),if_neg (by omega)]
   simp
 unfold plusR addR
 rw[if_pos (show leastR 0 0=0 from rfl)]
 show ratioR (signedR false (valN [] * valN a) p (valN x * valN [1])).1 (signedR false (valN [] * valN a) p (valN x * valN [1])).2 (valN [1] * valN a)=_
 rw[val_one,val_nilN,Nat.mul_one,Nat.one_mul,Nat.zero_mul,hS]
 exact ratioR_self hr.1 hr.2.1 hr.2.2
theorem zero_rat{r:RatV}(hr:validR r)(hf:r.1=0)(hx:r.2.2.1= []):r=(0,false,[],[1]):=by
 obtain⟨f,p,x,a⟩:=r
 have hf:f=0:=hf
 have hx:x= [] :=hx
 subst hf hx
 obtain⟨_,ca,_,_,_,hp,hg⟩:=isRat_zero_parts (p:=p) (x:= []) (a:=a) hr.1 hr.2.1 hr.2.2
 have hp:p=false:=by
  cases p with
  |false=>rfl
  |true=>exact absurd rfl (hp rfl)
 rw[val_nilN,Nat.gcd_zero_left]at hg
 have ha:a= [1] :=by rw[←digN_val ca,hg];exact digN_one
 rw[hp,ha]
def zS:S59:=sv (0,false,[],[1])
def outAt(fr:List S59)(row:List Bool)(c:List Int)(j:Nat):S59:=if row.getD j false=true then fr.getD (c.getD j 0).toNat dRat else zS
def outL(fr:List S59)(row:List Bool)(c:List Int)(n:Nat):List S59:=(List.range n).map (outAt fr row c)
theorem outL_len(fr:List S59)(row:List Bool)(c:List Int)(n:Nat):(outL fr row c n).length=n:=by unfold outL;simp
theorem outL_succ(fr:List S59)(row:List Bool)(c:List Int)(n:Nat):outL fr row c n++ [outAt fr row c n] =outL fr row c (n+1):=by unfold outL;rw[List.range_succ,List.map_append];rfl
theorem outL_get{fr:List S59}{row:List Bool}{c:List Int}{n j:Nat}(h:j< (outL fr row c n).length):(outL fr row c n)[j] =outAt fr row c j:=by
 have h':j< n:=by rw[outL_len]at h;exact h
 have e:(outL fr row c n)[j]? =some (outAt fr row c j):=by unfold outL;rw[List.getElem?_map,List.getElem?_range h'];rfl
 rw[List.getElem?_eq_getElem h]at e
 exact Option.some.inj e
def goodRow(m:Nat)(fr:List S59):Prop:=fr.length=m∧ ∀x,x∈fr→validR (rv x)∧x.f0=0
theorem zS_valid:validR (rv zS)∧zS.f0=0:=⟨valid_zero,rfl⟩
theorem outAt_valid{m:Nat}{fr:List S59}(hf:goodRow m fr){row:List Bool}{c:List Int}{j:Nat}(hc:0≤c.getD j 0∧c.getD j 0< (m:Int)):validR (rv (outAt fr row c j))∧(outAt fr row c j).f0=0:=by
 unfold outAt
 by_cases h:row.getD j false=true
 ·rw[if_pos h]
  have hl:(c.getD j 0).toNat< fr.length:=by rw[hf.1];omega
  have e:fr.getD (c.getD j 0).toNat dRat=fr[(c.getD j 0).toNat] :=getD_at hl
  rw[e]
  exact hf.2 _ (List.getElem_mem hl)
 ·rw[if_neg h]
  exact zS_valid
def accV(fr:List S59)(row:List Bool)(c:List Int)(t j:Nat):RatV:=if seenAt row c j (t:Int)=true then rv (fr.getD t dRat)else(0,false,[],[1])
theorem sum_out{m:Nat}{fr:List S59}(hf:goodRow m fr){row:List Bool}{c:List Int}(hl:row.length=c.length)(hc: ∀x,x∈c→inR m x=true)(hfit:fitRow row c=true){t:Nat}(ht:t< m):
  ∀d j,j+d=c.length→sumV (t:Int) (c.drop j) ((outL fr row c c.length).drop j) (accV fr row c t j)=accV fr row c t c.length:=by
 intro d
 induction d with
 |zero=>
  intro j hj
  have:j=c.length:=by omega
  subst this
  rw[List.drop_length]
  rfl
 |succ d ih=>
  intro j hj
  have hjc:j< c.length:=by omega
  have hjo:j< (outL fr row c c.length).length:=by rw[outL_len];exact hjc
  have hcj:c.getD j 0=c[j] :=getD_at hjc
  have hin:=inR_iff.1 (hc _ (List.getElem_mem hjc))
  have hv:=outAt_valid hf (row:=row) (c:=c) (j:=j) (by rw[hcj];exact hin)
  have hft:validR (rv (fr.getD t dRat))∧(fr.getD t dRat).f0=0:=by
   have hl:t< fr.length:=by rw[hf.1];exact ht
   have e:fr.getD t dRat=fr[t] :=getD_at hl
   rw[e]
   exact hf.2 _ (List.getElem_mem hl)
  rw[List.drop_eq_getElem_cons hjc,List.drop_eq_getElem_cons hjo,outL_get,sumV,←ih (j+1) (by omega)]
  congr 1
  have hs:=seenAt_succ row c j (t:Int)
  have hfa:=List.all_eq_true.1 hfit j (List.mem_range.2 (by omega))
  unfold fitAt at hfa
  by_cases e:c[j] =(t:Int)
  ·rw[if_pos (Or.inl e)]
   by_cases hb:row.getD j false=true
   ·have hns:seenAt row c j (t:Int)=false:=by
     rw[hcj,e,hb]at hfa
     simpa using hfa
    have h1:accV fr row c t j=(0,false,[],[1]):=by unfold accV;rw[if_neg (by rw[hns];decide)]
    have h2:accV fr row c t (j+1)=rv (fr.getD t dRat):=by unfold accV;rw[if_pos (by rw[hs,hcj,e,hb];simp)]
    have h3:outAt fr row c j=fr.getD t dRat:=by unfold outAt;rw[if_pos hb,hcj,e,Int.toNat_natCast]
    rw[h1,h2,h3]
    exact plusZ_left hft.1 hft.2
   ·have h2:accV fr row c t (j+1)=accV fr row c t j:=by
     have hb':row.getD j false=false:=by simpa using hb
     unfold accV;rw[hs,hb'];simp
    have h3:outAt fr row c j=zS:=by unfold outAt;rw[if_neg hb]
    rw[h2,h3]
    have hva:validR (accV fr row c t j):=by unfold accV;split;exact hft.1;exact valid_zero
    exact plusR_zero hva
  ·rw[if_neg (by intro h;rcases h with h|h;exact e h;exact h hv.2)]
   unfold accV
   rw[hs,hcj,beq_eq_false_iff_ne.2 e]
   simp
theorem rowV_eq(l1:List Int)(row:List S59): ∀n c acc,rowV l1 row n c acc=acc++ (List.range n).map (fun t=>sv (sumV ((c+t:Nat):Int) l1 row (0,false,[],[1])))
 |0,c,acc=>by simp[rowV]
 |n+1,c,acc=>by
  rw[rowV,rowV_eq l1 row n (c+1),List.range_succ_eq_map,List.map_cons,List.map_map,List.append_assoc]
  congr 1
  show _::_=_::_
  congr 1
  apply List.map_congr_left
  intro t _
  show sv (sumV ((c+1+t:Nat):Int) l1 row _)=sv (sumV ((c+ (t+1):Nat):Int) l1 row _)
  rw[show c+1+t=c+ (t+1)by omega]
theorem rowsV_eq(l1:List Int)(m:Nat): ∀l acc,rowsV l1 m l acc=acc++l.map (fun row=>rowV l1 row m 0 [])
 | [],acc=>by simp[rowsV]
 |row::l,acc=>by rw[rowsV,rowsV_eq l1 m l];simp
theorem sv_rv(x:S59):sv (rv x)=x:=by cases x;rfl
theorem leftB_none'{fr:List S59}{row:List Bool}{c:List Int}(h: ∀t:Nat,t< fr.length→leftK fr row c row.length (t:Int)=false):leftB fr row c=false:=by
 unfold leftB
 exact List.any_eq_false.2 (fun t ht=>by rw[h t (List.mem_range.1 ht)];decide)
theorem leftB_at{fr:List S59}{row:List Bool}{c:List Int}(h:leftB fr row c=false){t:Nat}(ht:t< fr.length):leftK fr row c row.length (t:Int)=false:=by
 unfold leftB at h
 have:=List.any_eq_false.1 h t (List.mem_range.2 ht)
 simpa using this
theorem row_same{m:Nat}(hm:m≤4096){fr:List S59}(hf:goodRow m fr){row:List Bool}{c:List Int}(hl:row.length=c.length)(hc: ∀x,x∈c→inR m x=true)(hfit:fitRow row c=true):rowV c (outL fr row c c.length) m 0 [] =fr↔leftB fr row c=false:=by
 have hsum: ∀t,t< m→sumV (t:Int) c (outL fr row c c.length) (0,false,[],[1])=accV fr row c t c.length:=by
  intro t ht
  have h:=sum_out hf hl hc hfit ht c.length 0 (by omega)
  rw[List.drop_zero,List.drop_zero]at h
  have e:accV fr row c t 0=(0,false,[],[1]):=by unfold accV seenAt;simp
  rw[←h,e]
 have hrow:rowV c (outL fr row c c.length) m 0 [] =(List.range m).map (fun t=>sv (accV fr row c t c.length)):=by
  rw[rowV_eq,List.nil_append]
  apply List.map_congr_left
  intro t ht
  rw[Nat.zero_add,hsum t (List.mem_range.1 ht)]
 rw[hrow]
 have hcell: ∀t,(ht:t< m)→(sv (accV fr row c t c.length)=fr.getD t dRat↔leftK fr row c row.length (t:Int)=false):=by
  intro t ht
  have hlt:t< fr.length:=by rw[hf.1];exact ht
  have eg:fr.getD t dRat=fr[t] :=getD_at hlt
  have hv:=hf.2 _ (List.getElem_mem hlt)
  rw[←eg]at hv
  unfold leftK leftN
  rw[hl,decide_eq_true (show(0:Int)≤(t:Int)by omega),decide_eq_true (show(t:Int)< (fr.length:Int)by omega),Int.toNat_natCast]
  cases hs:seenAt row c c.length (t:Int)with
  |true=>
   have:accV fr row c t c.length=rv (fr.getD t dRat):=by unfold accV;rw[if_pos hs]
   rw[this,sv_rv]
   simp
  |false=>
   have:accV fr row c t c.length=(0,false,[],[1]):=by unfold accV;rw[if_neg (by rw[hs];decide)]
   rw[this]
   constructor
   ·intro h
    rw[←h]
    rfl
   ·intro h
    have hz:(fr.getD t dRat).f2= [] :=by
     have h': ¬0< (fr.getD t dRat).f2.length:=by simpa using h
     exact List.eq_nil_of_length_eq_zero (by omega)
    have:=zero_rat hv.1 hv.2 hz
    rw[←this,sv_rv]
 constructor
 ·intro h
  refine leftB_none' (fun t ht=>(hcell t (by rw[←hf.1];exact ht)).1 ?_)
  have hlt:t< fr.length:=ht
  have h2:((List.range m).map (fun t=>sv (accV fr row c t c.length)))[t]? =fr[t]?:=by rw[h]
  rw[List.getElem?_map,List.getElem?_range (by rw[←hf.1];exact ht)]at h2
  simp only[Option.map_some]at h2
  rw[List.getD_eq_getElem?_getD,←h2]
  rfl
 ·intro h
  apply List.ext_getElem
  ·simp[hf.1]
  ·intro t h1 h2
   have ht:t< m:=by simpa using h1
   rw[List.getElem_map,List.getElem_range,(hcell t ht).2 (leftB_at h (by rw[hf.1];exact ht))]
   exact getD_at h2
theorem good_cloned{m:Nat}{fr:List S59}(hf:goodRow m fr){x:S59}(hx:x∈fr):cloned x=true:=by
 have h:=valid_len (hf.2 x hx).1
 unfold cloned
 simp only[Bool.and_eq_true,decide_eq_true_eq]
 have h1:x.f2.length≤1000:=h.1
 have h2:x.f3.length≤1000:=h.2
 omega
theorem spreadRow_f{m:Nat}{fr:List S59}(hf:goodRow m fr){row:List Bool}{c:List Int}(hl:row.length=c.length)(hc: ∀x,x∈c→inR m x=true):
  ∀d j,j+d=row.length→Ev (fun k=>spreadRow k c fr (row.drop j) j (outL fr row c j)) (outL fr row c c.length):=by
 intro d
 induction d with
 |zero=>
  intro j hj
  have:j=row.length:=by omega
  subst this
  rw[List.drop_length,←hl]
  exact Ev.con rfl
 |succ d ih=>
  intro j hj
  have hjr:j< row.length:=by omega
  have hjc:j< c.length:=by omega
  have hcj:c.getD j 0=c[j] :=getD_at hjc
  have hin:=inR_iff.1 (hc _ (List.getElem_mem hjc))
  have hrj:row.getD j false=row[j] :=getD_at hjr
  have h0:=wholeN_f (n:=0) (by decide)
  rw[ratioR_zero1]at h0
  rw[List.drop_eq_getElem_cons hjr]
  unfold spreadRow
  refine Ev.bind h0 ?_
  have hnext:=ih (j+1) (by omega)
  rw[←outL_succ]at hnext
  unfold outAt at hnext
  rw[hrj]at hnext
  by_cases hb:row[j] =true
  ·rw[if_pos hb]at hnext
   have hlt:(c[j]).toNat< fr.length:=by rw[hf.1];omega
   refine Ev.yes hb (Ev.yes ⟨by rw[hcj];exact hin.1,by rw[hcj,hf.1];exact hin.2,?_⟩ hnext)
   rw[hcj,getD_at hlt]
   exact good_cloned hf (List.getElem_mem hlt)
  ·rw[if_neg hb]at hnext
   exact Ev.no hb hnext
def spreadV(c:List Int)(ps:List (List Bool))(fs:List (List S59)):List (List S59):=List.zipWith (fun row fr=>outL fr row c c.length) ps fs
def leftV(c:List Int)(ps:List (List Bool))(fs:List (List S59)):Bool:=(ps.zip fs).any fun x=>leftB x.2 x.1 c
theorem spreadRows_f{m:Nat}(hm:m≤4096){c:List Int}(hc: ∀x,x∈c→inR m x=true): ∀ (ps:List (List Bool)) (fs:List (List S59)) acc,ps.length=fs.length→(∀row,row∈ps→row.length=c.length)→(∀fr,fr∈fs→goodRow m fr)→
  Ev (fun k=>spreadRows k c ps fs acc) (if leftV c ps fs=true then([],10)else(acc++spreadV c ps fs,0))
 | [],fs,acc,_,_,_=>by
  unfold leftV spreadV
  simp only[List.zip_nil_left,List.any_nil,List.zipWith_nil_left,List.append_nil]
  exact Ev.con rfl
 |row::ps,[],acc,h,_,_=>by simp at h
 |row::ps,fr::fs,acc,h,hr,hf=>by
  have hrow:=hr row (List.mem_cons_self ..)
  have hfr:=hf fr (List.mem_cons_self ..)
  have hR:=spreadRow_f hfr hrow hc row.length 0 (by omega)
  rw[List.drop_zero]at hR
  unfold spreadRows
  have e0:outL fr row c 0= [] :=rfl
  rw[e0]at hR
  refine Ev.yes ⟨by rw[hfr.1];exact hm,hrow⟩ (Ev.bind hR ?_)
  have ih:=spreadRows_f hm hc ps fs (acc++ [outL fr row c c.length]) (by simpa using h) (fun r hh=>hr r (List.mem_cons_of_mem _ hh)) (fun r hh=>hf r (List.mem_cons_of_mem _ hh))
  by_cases hlb:leftB fr row c=true
  ·have e:leftV c (row::ps) (fr::fs)=true:=by unfold leftV;rw[List.zip_cons_cons,List.any_cons,hlb];rfl
   rw[if_pos e]
   exact Ev.yes hlb (Ev.now _)
  ·have e:leftV c (row::ps) (fr::fs)=leftV c ps fs:=by
    have hlb':leftB fr row c=false:=by simpa using hlb
    unfold leftV;rw[List.zip_cons_cons,List.any_cons,hlb'];rfl
   have e2:acc++spreadV c (row::ps) (fr::fs)=acc++ [outL fr row c c.length] ++spreadV c ps fs:=by unfold spreadV;rw[List.zipWith_cons_cons,List.append_assoc];rfl
   rw[e,e2]
   exact Ev.no hlb ih
theorem progSpread_to{P:List (List Bool)}(hP:P.length< 4096){c:List Int}(hw:wfInts c=true){M:List (List S59)}(h:formB P (c.length:Int)=true)(hn:numB (c.length:Int) c=true){R:List (List S59)×Int}
  (fin:Ev (fun k=>if(P.all fun row=>fitRow row c)=false then some ([],9)else(sparse_seeded.f k c).bind fun s=>if¬s.2=0 then some ([],2)else if¬ (M.length:Int)=(P.length:Int)then some ([],2)else if M.any (fun row=>decide (¬ (row.length:Int)=s.1))=true then some ([],2)else
   if M.all (fun row=>row.all (fun x=>(ratOf k x).isSome))=true∧wfInts c=true then(if M.any (badR k)=true then some ([],5)else spreadRows k c P M [])else none) R):Ev (fun k=>sparse_Spread.f k P c M) R:=by
 unfold sparse_Spread.f
 have hf:=form_is hP (c.length:Int)
 rw[if_pos h]at hf
 have hp:=painted_is (c.length:Int) c
 rw[if_pos hn]at hp
 have hrows:=form_rows h
 have hfit:sparse_fits.f P c=some (P.all fun row=>fitRow row c):=by
  unfold sparse_fits.f
  rw[if_pos]
  rw[hw,Bool.true_and]
  exact List.all_eq_true.2 (fun row hr=>by rw[hrows row hr];simp)
 exact Ev.bind (Ev.con hf) (Ev.bind (Ev.con (by rw[if_pos rfl];exact hp)) (Ev.no (by simp) (Ev.bind (Ev.con hfit) fin)))
theorem any_congr'{α:Type}{f g:α→Bool} : ∀ {l:List α},(∀x,x∈l→f x=g x)→l.any f=l.any g
 | [],_=>rfl
 |a::l,h=>by rw[List.any_cons,List.any_cons,h a (List.mem_cons_self ..),any_congr' (fun x hx=>h x (List.mem_cons_of_mem _ hx))]
def goodX(x:S59):Bool:=okR x && decide (x.f0=0)
theorem progSpread_mid{c:List Int}(hw:wfInts c=true){P:List (List Bool)}{M:List (List S59)}(hu: ∀row,row∈M→ ∀x,x∈row→u32R x){R:List (List S59)×Int}
  (fin:Ev (fun k=>if M.any (fun row=>row.any fun x=>!goodX x)=true then some ([],5)else spreadRows k c P M []) R):
  Ev (fun k=>if M.all (fun row=>row.all (fun x=>(ratOf k x).isSome))=true∧wfInts c=true then(if M.any (badR k)=true then some ([],5)else spreadRows k c P M [])else none) R:=by
 obtain⟨K,hK⟩:=ev_all (f:=fun k x=>ratOf k x) (v:=okR) M.flatten (fun x hx=>by
  obtain⟨row,hr,hx⟩:=List.mem_flatten.1 hx
  exact ratOf_f (hu row hr x hx))
 obtain⟨K2,hK2⟩:=fin
 refine⟨max K K2,fun k hk=>?_⟩
 have hv: ∀row,row∈M→ ∀x,x∈row→ratOf k x=some (okR x):=fun row hr x hx=>hK k (by omega) x (List.mem_flatten.2 ⟨row,hr,hx⟩)
 have h1:M.all (fun row=>row.all (fun x=>(ratOf k x).isSome))=true:=List.all_eq_true.2 (fun row hr=>List.all_eq_true.2 (fun x hx=>by rw[hv row hr x hx];rfl))
 have h2:M.any (badR k)=M.any (fun row=>row.any fun x=>!goodX x):=by
  apply any_congr'
  intro row hr
  unfold badR
  apply any_congr'
  intro x hx
  unfold badS goodX
  rw[hv row hr x hx]
  cases okR x<;>by_cases h0:x.f0=0<;>simp[h0]
 show(if M.all (fun row=>row.all (fun x=>(ratOf k x).isSome))=true∧wfInts c=true then(if M.any (badR k)=true then some ([],5)else spreadRows k c P M [])else none)=some R
 rw[if_pos ⟨h1,hw⟩,h2]
 exact hK2 k (by omega)
def fitRowTo(n:Nat)(row:List Bool):List Bool:=row.take (min row.length n) ++ (List.replicate n false).drop (min row.length n)
def fitPat(z:List (List Bool))(n:Nat):List (List Bool):=(z.take 12).map (fitRowTo n)
theorem fitRowTo_length(n:Nat)(row:List Bool):(fitRowTo n row).length=n:=by unfold fitRowTo;simp;omega
theorem fitPat_rows(z:List (List Bool))(n:Nat): ∀row∈fitPat z n,row.length=n:=by
 intro row hr;unfold fitPat at hr;obtain⟨r,_,rfl⟩:=List.mem_map.1 hr;exact fitRowTo_length n r
theorem fitPat_length(z:List (List Bool))(n:Nat):(fitPat z n).length≤12:=by unfold fitPat;simp;omega
theorem fitPat_form(z:List (List Bool)){n:Nat}(hn:n≤4096):formB (fitPat z n) n=true:=by
 unfold formB;simp only[Bool.and_eq_true,decide_eq_true_iff,List.all_eq_true]
 exact⟨⟨by omega,by omega⟩,fun row hr=>by rw[fitPat_rows z n row hr]⟩
theorem fit_l0(z:List (List Bool)){n:Nat}(hn:n< 4096): ∀d i out,i+d=min z.length 12→out.length=i→Ev (fun k=>fluxionlaw19_fit.l0 k z n out i) (out++ ((z.drop i).take d).map (fitRowTo n))
 |0,i,out,hi,ho=>by
  refine Ev.step (fun k=>by rw[fluxionlaw19_fit.l0]) ?_
  have e:out++ ((z.drop i).take 0).map (fitRowTo n)=out:=by simp
  rw[e]
  by_cases h:i< z.length
  ·exact Ev.yes (by omega) (Ev.no (by omega) (Ev.now _))
  ·exact Ev.no (by omega) (Ev.now _)
 |d+1,i,out,hi,ho=>by
  have hl:i< z.length:=by omega
  refine Ev.step (fun k=>by rw[fluxionlaw19_fit.l0]) ?_
  simp only[row_L1 hl,Option.bind_some,Int.toNat_natCast,List.length_replicate]
  refine Ev.yes (by omega) (Ev.yes (by omega) (Ev.yes (by omega) (Ev.yes (by omega) (Ev.yes (by omega) (Ev.yes (by omega) ?_)))))
  rw[wnx i (by omega),List.drop_eq_getElem_cons hl,List.take_succ_cons,List.map_cons]
  have:=fit_l0 z hn d (i+1) (out++ [fitRowTo n z[i]]) (by omega) (by simp[ho])
  rw[List.append_assoc]at this;exact this
theorem fit_is(z:List (List Bool)){n:Nat}(hn:n< 4096):Ev (fun k=>fluxionlaw19_fit.f k z n) (fitPat z n):=by
 have:=fit_l0 z hn (min z.length 12) 0 [] (by omega) rfl
 have e:fitPat z n= [] ++ ((z.drop 0).take (min z.length 12)).map (fitRowTo n):=by
  unfold fitPat;rw[List.nil_append,List.drop_zero];congr 1;rw[List.take_eq_take_iff];omega
 rw[e];exact this
theorem mem_getD{l:List Int}{x:Int}(h:x∈l): ∃i,i< l.length∧l.getD i 0=x:=by
 obtain⟨i,hi,rfl⟩:=List.getElem_of_mem h
 exact⟨i,hi,by simp[List.getD_eq_getElem?_getD,hi]⟩
theorem numB_ok{n:Nat}{q:List Int}(h:q.length=n)(h0: ∀x∈q,0≤x):numB n q=true:=by
 unfold numB;simp only[Bool.and_eq_true,decide_eq_true_iff,List.all_eq_true];exact⟨by omega,h0⟩
theorem wf_ok{q:List Int}(h: ∀x∈q,0≤x∧x< 4096):wfInts q=true:=by
 unfold wfInts;rw[List.all_eq_true];intro x hx;have:=h x hx
 rw[decide_eq_true (by omega),decide_eq_true (by omega)];rfl
theorem topV_ge: ∀ (l:List Int) (t:Int),t≤topV l t
 | [],t=>Int.le_refl t
 |x::l,t=>by
  have:=topV_ge l (mx t (x+1))
  have h:t≤mx t (x+1):=mx_ge
  rw[topV]
  omega
theorem topV_mem: ∀ (l:List Int) (t x:Int),x∈l→x< topV l t
 |y::l,t,x,h=>by
  rw[topV]
  rcases List.mem_cons.1 h with rfl|h
  ·have:=topV_ge l (mx t (x+1))
   have h:x+1≤mx t (x+1):=by unfold mx;split<;>omega
   omega
  ·exact topV_mem l _ x h
def lies(row:List Bool)(x:List S59):Prop:=x.length=row.length∧ ∀j,j< row.length→validR (rv (x.getD j dRat))∧(x.getD j dRat).f0=0∧(row.getD j false=false→x.getD j dRat=zS)
theorem lies_nil:lies [] [] :=⟨rfl,fun j h=>absurd h (Nat.not_lt_zero _)⟩
theorem lies_cons{b:Bool}{bs:List Bool}{x:S59}{xs:List S59}(hx:validR (rv x))(h0:x.f0=0)(hz:b=false→x=zS)(h:lies bs xs):lies (b::bs) (x::xs):=by
 refine⟨by simp[h.1],fun j hj=>?_⟩
 cases j with
 |zero=>exact⟨hx,h0,hz⟩
 |succ j=>exact h.2 j (by simpa using hj)
theorem lies_all{row:List Bool}{x:List S59}(h:lies row x): ∀y,y∈x→validR (rv y)∧y.f0=0:=by
 intro y hy
 obtain⟨j,hj,rfl⟩:=List.mem_iff_getElem.1 hy
 have:=h.2 j (by rw[←h.1];exact hj)
 rw[getD_at hj]at this
 exact⟨this.1,this.2.1⟩
def frAt(row:List Bool)(c:List Int)(x:List S59)(t:Nat):S59:=match (List.range c.length).find? (fun j=>row.getD j false && (c.getD j 0==(t:Int)))with
 |some j=>x.getD j dRat
 |none=>zS
def frL(row:List Bool)(c:List Int)(x:List S59)(m:Nat):List S59:=(List.range m).map (frAt row c x)
theorem frL_len(row:List Bool)(c:List Int)(x:List S59)(m:Nat):(frL row c x m).length=m:=by unfold frL;simp
theorem frL_at{row:List Bool}{c:List Int}{x:List S59}{m t:Nat}(h:t< m):(frL row c x m).getD t dRat=frAt row c x t:=by
 unfold frL
 rw[List.getD_eq_getElem?_getD,List.getElem?_map,List.getElem?_range h]
 rfl
theorem frAt_good{row:List Bool}{c:List Int}{x:List S59}(hl:row.length=c.length)(h:lies row x)(t:Nat):validR (rv (frAt row c x t))∧(frAt row c x t).f0=0:=by
 unfold frAt
 split
 ·rename_i j hj
  have h1:=List.mem_range.1 (List.mem_of_find?_eq_some hj)
  have h2:=h.2 j (by omega)
  exact⟨h2.1,h2.2.1⟩
 ·exact zS_valid
theorem frL_good{row:List Bool}{c:List Int}{x:List S59}(hl:row.length=c.length)(h:lies row x)(m:Nat):goodRow m (frL row c x m):=by
 refine⟨frL_len _ _ _ _,fun y hy=>?_⟩
 unfold frL at hy
 obtain⟨t,_,rfl⟩:=List.mem_map.1 hy
 exact frAt_good hl h t
theorem fit_one{row:List Bool}{c:List Int}(hfit:fitRow row c=true){i j:Nat}(hj:j< row.length)(hi:i< j)(ri:row.getD i false=true)(rj:row.getD j false=true)(e:c.getD i 0=c.getD j 0):False:=by
 have h:=List.all_eq_true.1 hfit j (List.mem_range.2 hj)
 unfold fitAt at h
 have hs:seenAt row c j (c.getD j 0)=true:=by
  unfold seenAt
  refine List.any_eq_true.2 ⟨i,List.mem_range.2 hi,?_⟩
  rw[ri,e]
  simp
 rw[rj,hs]at h
 exact absurd h (by decide)
theorem out_fr{row:List Bool}{c:List Int}{x:List S59}{m:Nat}(hl:row.length=c.length)(hc: ∀x,x∈c→inR m x=true)(hfit:fitRow row c=true)(h:lies row x):outL (frL row c x m) row c c.length=x:=by
 apply List.ext_getElem
 ·rw[outL_len,h.1,hl]
 ·intro j h1 h2
  rw[outL_get]
  have hj:j< row.length:=by rw[←h.1];exact h2
  have hjc:j< c.length:=by omega
  have hx:=h.2 j hj
  rw[getD_at h2]at hx
  unfold outAt
  cases hb:row.getD j false with
  |false=>
   rw[if_neg (by decide)]
   exact(hx.2.2 hb).symm
  |true=>
   rw[if_pos rfl]
   have hcj:c.getD j 0=c[j] :=getD_at hjc
   have hin:=inR_iff.1 (hc _ (List.getElem_mem hjc))
   rw[frL_at (by rw[hcj];omega)]
   unfold frAt
   have hcast:(((c.getD j 0).toNat:Nat):Int)=c.getD j 0:=by rw[hcj];omega
   rw[hcast]
   cases hf:(List.range c.length).find? (fun i=>row.getD i false && (c.getD i 0==c.getD j 0))with
   |none=>
    have:=List.find?_eq_none.1 hf j (List.mem_range.2 hjc)
    rw[hb]at this
    simp at this
   |some i=>
    have h3:=List.mem_range.1 (List.mem_of_find?_eq_some hf)
    have h4:=List.find?_some hf
    simp only[Bool.and_eq_true,beq_iff_eq]at h4
    have e:i=j:=by
     rcases Nat.lt_trichotomy i j with hij|hij|hij
     ·exact(fit_one hfit hj hij h4.1 hb h4.2).elim
     ·exact hij
     ·exact(fit_one hfit (by omega) hij hb h4.1 h4.2.symm).elim
    subst e
    show x.getD i dRat=x[i]
    exact getD_at h2
theorem left_fr{row:List Bool}{c:List Int}{x:List S59}{m:Nat}(hl:row.length=c.length):leftB (frL row c x m) row c=false:=by
 refine leftB_none' (fun t ht=>?_)
 rw[frL_len]at ht
 unfold leftK leftN
 rw[Int.toNat_natCast,frL_at ht,hl]
 cases hs:seenAt row c c.length (t:Int)with
 |true=>simp
 |false=>
  have hn:(List.range c.length).find? (fun j=>row.getD j false && (c.getD j 0==(t:Int)))=none:=by
   refine List.find?_eq_none.2 (fun j hj hh=>?_)
   unfold seenAt at hs
   exact List.any_eq_false.1 hs j hj hh
  have:frAt row c x t=zS:=by unfold frAt;rw[hn]
  rw[this]
  simp[zS,sv]
def liesM:List (List Bool)→List (List S59)→Prop
 | [],[] =>True
 |p::ps,x::xs=>lies p x∧liesM ps xs
 |_,_=>False
def fewM(c:List Int)(m:Nat)(P:List (List Bool))(M:List (List S59)):List (List S59):=List.zipWith (fun p x=>frL p c x m) P M
theorem few_all{m:Nat}(hm:m≤4096){c:List Int}(hc: ∀x,x∈c→inR m x=true): ∀ (P:List (List Bool)) (M:List (List S59)),liesM P M→(∀row,row∈P→row.length=c.length)→(∀row,row∈P→fitRow row c=true)→
  M.length=P.length∧(fewM c m P M).length=P.length∧(∀fr,fr∈fewM c m P M→goodRow m fr)∧M.map (fun row=>rowV c row m 0 [])=fewM c m P M∧spreadV c P (fewM c m P M)=M∧leftV c P (fewM c m P M)=false∧(∀row,row∈M→row.length=c.length∧ ∀x,x∈row→validR (rv x)∧x.f0=0)
 | [],[],_,_,_=>⟨rfl,rfl,fun fr h=>by simp[fewM]at h,rfl,rfl,rfl,fun row h=>by cases h⟩
 | [],_::_,h,_,_=>h.elim
 |_::_,[],h,_,_=>h.elim
 |p::P,x::M,h,hl,hf=>by
  have hp:=hl p (List.mem_cons_self ..)
  have hfp:=hf p (List.mem_cons_self ..)
  obtain⟨a1,a2,a3,a4,a5,a6,a7⟩:=few_all hm hc P M h.2 (fun r hr=>hl r (List.mem_cons_of_mem _ hr)) (fun r hr=>hf r (List.mem_cons_of_mem _ hr))
  have e:fewM c m (p::P) (x::M)=frL p c x m::fewM c m P M:=rfl
  have hg:=frL_good hp h.1 m
  have ho:=out_fr hp hc hfp h.1
  have hb:leftB (frL p c x m) p c=false:=left_fr hp
  have hr:=(row_same hm hg hp hc hfp).2 hb
  rw[ho]at hr
  rw[e]
  refine⟨by simp[a1],by simp[a2],?_,?_,?_,?_,?_⟩
  ·intro fr hfr
   rcases List.mem_cons.1 hfr with rfl|hfr
   ·exact hg
   ·exact a3 fr hfr
  ·rw[List.map_cons,hr,a4]
  ·unfold spreadV at a5 ⊢
   rw[List.zipWith_cons_cons,ho,a5]
  ·unfold leftV at a6 ⊢
   rw[List.zip_cons_cons,List.any_cons,a6,hb]
   rfl
  ·intro row hrow
   rcases List.mem_cons.1 hrow with rfl|hrow
   ·exact⟨by rw[h.1.1,hp],lies_all h.1⟩
   ·exact a7 row hrow
theorem ratioR_small(p:Bool){n d:Nat}(hn:n< 4294967296)(hd:d< 4294967296)(h0:d≠0):(ratioR p n d).1=0:=by
 unfold ratioR boundR
 rw[if_neg h0]
 have key:nb (valN (exactR p n d).2.2.1)≤32∧nb (valN (exactR p n d).2.2.2)≤32:=by
  unfold exactR
  split
  ·exact⟨nb_le (by simp[val_nilN]),nb_le (by simp[val_one])⟩
  ·have h1:=Nat.div_le_self n (Nat.gcd n d)
   have h2:=Nat.div_le_self d (Nat.gcd n d)
   exact⟨nb_le (by simp only[val_digN];omega),nb_le (by simp only[val_digN];omega)⟩
 rw[if_neg (by omega)]
 unfold exactR
 split<;>rfl
theorem refSizeS_f{a:Int}(h: -1000000≤a∧a≤1000000):fluxionref02_size.f a=some ((a.natAbs:Nat):Int):=by
 unfold fluxionref02_size.f
 by_cases h0:a< 0
 ·rw[if_pos h0]
  congr 1
  rw[IntKind.wrap_u64,IntKind.wrap_u64]
  omega
 ·rw[if_neg h0]
  congr 1
  rw[IntKind.wrap_u64]
  omega
theorem refOfS_f{a d:Int}(ha: -1000000≤a∧a≤1000000)(hd:1≤d∧d≤1000000): ∃r:RatV,Ev (fun k=>fluxionref02_Of.f k a d) r∧validR r∧r.1=0:=by
 refine⟨ratioR (decide (a< 0) !=decide (d< 0)) a.natAbs d.natAbs,?_,ratioR_valid _ _ _,ratioR_small _ (by omega) (by omega) (by omega)⟩
 unfold fluxionref02_Of.f
 rw[refSizeS_f ha,refSizeS_f (a:=d) (by omega)]
 refine Ev.bind (Ev.now _) (Ev.bind (refOf01_f a.natAbs (by omega)) (Ev.bind (Ev.now _) (Ev.bind (refOf01_f d.natAbs (by omega)) (Ev.bind (refRatioN_f (L:=2) (by omega) (by omega) (by omega)) (Ev.now _)))))
theorem inCell_f{l1:List (List S59)}(hu: ∀row,row∈l1→ ∀x,x∈row→u32s x.f2∧u32s x.f3){i j:Nat}(hi:i< 1000)(hj:j< 1000): ∃r:RatV,Ev (fun k=>inCell k l1 i j) r∧validR r∧r.1=0:=by
 have e:wrap64 ((wrap64 ((i:Int) + (wrap64 (2 * (j:Int))))) +1)=(i:Int) +2 * j+1:=by
  rw[w64 (2 * (j:Int)) (by omega),w64 ((i:Int) +2 * j) (by omega),w64 _ (by omega)]
 obtain⟨r1,h1,v1,f1⟩:=refOfS_f (a:=(i:Int) +2 * j+1) (d:=1) (by omega) (by omega)
 unfold inCell
 rw[e]
 by_cases hd:inDrawn l1 i j=true
 ·have hdd:=hd
  unfold inDrawn at hdd
  simp only[Bool.and_eq_true,decide_eq_true_eq]at hdd
  obtain⟨⟨⟨b1,b2⟩,b3⟩,b4⟩:=hdd
  have eR:l1.getD i [] =l1[i] :=getD_at b1
  have hm:inAt l1 i j∈l1[i] :=by
   unfold inAt
   rw[eR]at b2 ⊢
   rw[getD_at b2]
   exact List.getElem_mem b2
  obtain⟨u2,u3⟩:=hu _ (List.getElem_mem b1) _ hm
  generalize inAt l1 i j=x at b3 b4 u2 u3
  have dig: ∀y:List Int,u32s y→0< y.length→0≤rd y 0∧rd y 0< 4294967296:=fun y hy hl=>by
   have:=rd_at (q:=y) (i:=0) hl
   rw[show((0:Nat):Int)=0 from rfl]at this
   rw[this]
   exact hy _ (List.getElem_mem hl)
  have d2:=dig _ u2 b3
  have d3:=dig _ u3 b4
  have m2:0≤Int.tmod (rd x.f2 0) 90∧Int.tmod (rd x.f2 0) 90< 90:=by rw[Int.tmod_eq_emod_of_nonneg d2.1];omega
  have m3:0≤Int.tmod (rd x.f3 0) 7∧Int.tmod (rd x.f3 0) 7< 7:=by rw[Int.tmod_eq_emod_of_nonneg d3.1];omega
  have e2:wrap64 ((wrap64 (Int.tmod (rd x.f2 0) 90)) - 40)=Int.tmod (rd x.f2 0) 90 - 40:=by rw[w64 (Int.tmod (rd x.f2 0) 90) (by omega),w64 _ (by omega)]
  have e3:wrap64 (1+ (wrap64 (Int.tmod (rd x.f3 0) 7)))=1+Int.tmod (rd x.f3 0) 7:=by rw[w64 (Int.tmod (rd x.f3 0) 7) (by omega),w64 _ (by omega)]
  obtain⟨r2,h2,v2,f2⟩:=refOfS_f (a:=Int.tmod (rd x.f2 0) 90 - 40) (d:=1+Int.tmod (rd x.f3 0) 7) (by omega) (by omega)
  rw[e2,e3]
  exact⟨r2,Ev.bind h1 (Ev.yes hd h2),v2,f2⟩
 ·exact⟨r1,Ev.bind h1 (Ev.no hd (Ev.now _)),v1,f1⟩
theorem insideRow_f{l1:List (List S59)}(hu: ∀row,row∈l1→ ∀x,x∈row→u32s x.f2∧u32s x.f3){i:Nat}(hi:i< 1000): ∀ (bs:List Bool) (j:Nat) (acc:List S59),j+bs.length< 1000→acc.length< 1000000 - bs.length→ ∃r,Ev (fun k=>insideRow k l1 i bs j acc) (acc++r)∧lies bs r
 | [],j,acc,_,_=>⟨[],by rw[List.append_nil];exact Ev.con rfl,lies_nil⟩
 |b::bs,j,acc,hj,ha=>by
  have hj':j+ (bs.length+1)< 1000:=hj
  have ha':acc.length< 1000000 - (bs.length+1):=ha
  have h0:=refOfN_f (n:=0) (by decide)
  rw[ratioR_zero1]at h0
  cases b with
  |true=>
   obtain⟨r,h1,h2,h3⟩:=inCell_f hu hi (j:=j) (by omega)
   obtain⟨rs,h4,h5⟩:=insideRow_f hu hi bs (j+1) (acc++ [sv r]) (by omega) (by simp;omega)
   refine⟨sv r::rs,?_,lies_cons h2 h3 (fun h=>by cases h) h5⟩
   unfold insideRow
   rw[List.append_assoc]at h4
   exact Ev.bind h0 (Ev.bind (Ev.yes rfl h1) (Ev.yes (by omega) h4))
  |false=>
   obtain⟨rs,h4,h5⟩:=insideRow_f hu hi bs (j+1) (acc++ [zS]) (by omega) (by simp;omega)
   refine⟨zS::rs,?_,lies_cons zS_valid.1 zS_valid.2 (fun _=>rfl) h5⟩
   unfold insideRow
   rw[List.append_assoc]at h4
   exact Ev.bind h0 (Ev.bind (Ev.no (by decide) (Ev.now _)) (Ev.yes (by omega) h4))
theorem insideRows_f{l1:List (List S59)}(hu: ∀row,row∈l1→ ∀x,x∈row→u32s x.f2∧u32s x.f3){n:Nat}(hn:n< 500): ∀ (ps:List (List Bool)) (i:Nat) (acc:List (List S59)),(∀row,row∈ps→row.length=n)→i+ps.length< 1000→acc.length< 1000000 - ps.length→ ∃r,Ev (fun k=>insideRows k l1 ps i acc) (acc++r)∧liesM ps r
 | [],i,acc,_,_,_=>⟨[],by rw[List.append_nil];exact Ev.con rfl,trivial⟩
 |p::ps,i,acc,hp,hi,ha=>by
  have hi':i+ (ps.length+1)< 1000:=hi
  have ha':acc.length< 1000000 - (ps.length+1):=ha
  have hl:=hp p (List.mem_cons_self ..)
  obtain⟨r,h1,h2⟩:=insideRow_f hu (i:=i) (by omega) p 0 [] (by omega) (by simp;omega)
  rw[List.nil_append]at h1
  obtain⟨rs,h3,h4⟩:=insideRows_f hu hn ps (i+1) (acc++ [r]) (fun row hr=>hp row (List.mem_cons_of_mem _ hr)) (by omega) (by simp;omega)
  refine⟨r::rs,?_,⟨h2,h4⟩⟩
  unfold insideRows
  rw[List.append_assoc]at h3
  exact Ev.bind h1 (Ev.yes (by omega) h3)
theorem inside_f{l1:List (List S59)}(hu: ∀row,row∈l1→ ∀x,x∈row→u32s x.f2∧u32s x.f3){n:Nat}(hn:n< 500){P:List (List Bool)}(hp: ∀row,row∈P→row.length=n)(hP:P.length< 500): ∃M,Ev (fun k=>fluxionlaw19_inside.f k P l1) M∧liesM P M:=by
 obtain⟨r,h1,h2⟩:=insideRows_f hu hn P 0 [] hp (by omega) (by simp;omega)
 exact⟨r,h1,h2⟩
theorem valid_small{x:S59}(h:validR (rv x)):u32R x:=by
 have h1:=valid_len h
 have h2:x.f2.length≤1000:=h1.1
 have h3:x.f3.length≤1000:=h1.2
 exact⟨h.1,h.2.1,by omega,by omega⟩
theorem same_v{l:List (List S59)}{n:Nat}(hs:l.length< 4294967296)(hn:n< 4294967296)(h: ∀row,row∈l→row.length=n∧ ∀x,x∈row→validR (rv x)∧x.f0=0):Ev (fun k=>fluxionref14_Same.f k l l) true:=
 same_refl hs (fun row hr=>⟨by rw[(h row hr).1];exact hn,fun x hx=>by have:=valid_small ((h row hr).2 x hx).1;exact⟨by have:=this.2.2.1;omega,by have:=this.2.2.2;omega⟩⟩)
theorem told_round{P:List (List Bool)}{n:Nat}(hP:P.length≤12)(hn:n≤10)(hf:formB P n=true)(hp: ∀row,row∈P→row.length=n){M:List (List S59)}(hM:liesM P M){c:List Int}(hcl:c.length=n)(hc: ∀x,x∈c→inR n x=true)(hfit:fitP P c):
  ∃F,Ev (fun k=>sparse_Squeeze.f k M c) (F,0)∧Ev (fun k=>sparse_Spread.f k P c F) (M,0)∧Ev (fun k=>fluxionref14_Same.f k M M) true∧Ev (fun k=>fluxionref14_Same.f k F F) true∧M.length=P.length∧F.length=P.length∧(∀row,row∈M→row.length=n∧ ∀x,x∈row→validR (rv x)∧x.f0=0)∧(∀row,row∈F→row.length≤n∧ ∀x,x∈row→validR (rv x)∧x.f0=0):=by
 subst hcl
 have ha:c.all (inR c.length)=true:=List.all_eq_true.2 hc
 obtain⟨ht0,ht1⟩:=topV_bound (n:=c.length) c 0 hc (by omega) (by omega)
 obtain⟨m,hm⟩:=Int.eq_ofNat_of_zero_le ht0
 have hS:=seeded_f c
 have hsv:seededV c=((m:Int),0):=by unfold seededV;rw[if_neg (by omega),if_pos ha,hm]
 rw[hsv]at hS
 have hcm: ∀x,x∈c→inR m x=true:=fun x hx=>inR_iff.2 ⟨(inR_iff.1 (hc x hx)).1,by have:=topV_mem c 0 x hx;omega⟩
 have hfr:=fitRows_is hp (cs:=c) rfl
 rw[decide_eq_true hfit]at hfr
 obtain⟨a1,a2,a3,a4,a5,a6,a7⟩:=few_all (m:=m) (by omega) hcm P M hM hp (List.all_eq_true.1 hfr)
 have hsq:=progSqueeze_ok (l0:=M) (l1:=c) (m:=m) hS (by omega) (by omega) (fun row h=>(a7 row h).1) (fun row h x hx=>valid_small ((a7 row h).2 x hx).1)
 have hnb: ¬M.any (fun row=>row.any (fun x=>!okR x))=true:=by
  intro h
  obtain⟨row,hr,hx⟩:=List.any_eq_true.1 h
  obtain⟨x,hx1,hx2⟩:=List.any_eq_true.1 hx
  have h2:okR x=true:=((a7 row hr).2 x hx1).1.2.2
  rw[h2]at hx2
  cases hx2
 rw[if_neg hnb,rowsV_eq,List.nil_append,a4]at hsq
 have hw:wfInts c=true:=wf_ok (fun x hx=>by have:=inR_iff.1 (hc x hx);omega)
 have hnum:numB (c.length:Int) c=true:=numB_ok rfl (fun x hx=>(inR_iff.1 (hc x hx)).1)
 generalize hF:fewM c m P M=F at a2 a3 a4 a5 a6 hsq
 have hFv: ∀row,row∈F→row.length=m∧ ∀x,x∈row→validR (rv x)∧x.f0=0:=fun row h=>a3 row h
 have hany: ¬F.any (fun row=>decide (¬ (row.length:Int)=(m:Int)))=true:=by
  intro h
  obtain⟨row,hr,hx⟩:=List.any_eq_true.1 h
  have:=(hFv row hr).1
  have:=of_decide_eq_true hx
  omega
 have hng: ¬F.any (fun row=>row.any fun x=>!goodX x)=true:=by
  intro h
  obtain⟨row,hr,hx⟩:=List.any_eq_true.1 h
  obtain⟨x,hx1,hx2⟩:=List.any_eq_true.1 hx
  have h2:=(hFv row hr).2 x hx1
  have h3:goodX x=true:=by
   unfold goodX
   rw[show okR x=true from h2.1.2.2,h2.2]
   rfl
  rw[h3]at hx2
  cases hx2
 have hsp:=progSpread_to (P:=P) (by omega) hw (M:=F) hf hnum (R:=if leftV c P F=true then([],10)else([] ++spreadV c P F,0)) (by
  rw[hfr]
  exact Ev.no (by decide) (Ev.bind hS (Ev.no (by simp) (Ev.no (by omega) (Ev.no hany (progSpread_mid hw (fun row h x hx=>valid_small ((hFv row h).2 x hx).1) (Ev.no hng (spreadRows_f (m:=m) (by omega) hcm P F [] a2.symm hp a3))))))))
 rw[a6,if_neg (by decide),a5,List.nil_append]at hsp
 exact⟨F,hsq,hsp,same_v (n:=c.length) (by omega) (by omega) a7,same_v (n:=m) (by omega) (by omega) hFv,a1,a2,a7,fun row h=>⟨by rw[(hFv row h).1];omega,(hFv row h).2⟩⟩
theorem Ev.uniq{α:Type}{g:Nat→Option α}{r s:α}(h:Ev g r)(k:Ev g s):r=s:=by
 obtain⟨K,h⟩:=h
 obtain⟨L,k⟩:=k
 have a:=h (max K L) (by omega)
 rw[k (max K L) (by omega)]at a
 exact(Option.some.inj a).symm
def shortR(r:RatV):Prop:=r.2.2.1.length≤2∧r.2.2.2.length≤2
theorem ratioR_short(p:Bool){n d:Nat}(hn:n< 4294967296)(hd:d< 4294967296)(h0:d≠0):shortR (ratioR p n d):=by
 unfold ratioR boundR shortR
 rw[if_neg h0]
 split
 ·exact⟨by simp,by simp⟩
 ·unfold exactR
  split
  ·exact⟨by simp,by simp⟩
  ·have h1:=Nat.div_le_self n (Nat.gcd n d)
   have h2:=Nat.div_le_self d (Nat.gcd n d)
   exact⟨len_digN_le (by omega),len_digN_le (by omega)⟩
theorem refOfS_s{a d:Int}(ha: -1000000≤a∧a≤1000000)(hd:1≤d∧d≤1000000): ∃r:RatV,Ev (fun k=>fluxionref02_Of.f k a d) r∧shortR r:=by
 refine⟨ratioR (decide (a< 0) !=decide (d< 0)) a.natAbs d.natAbs,?_,ratioR_short _ (by omega) (by omega) (by omega)⟩
 unfold fluxionref02_Of.f
 rw[refSizeS_f ha,refSizeS_f (a:=d) (by omega)]
 refine Ev.bind (Ev.now _) (Ev.bind (refOf01_f a.natAbs (by omega)) (Ev.bind (Ev.now _) (Ev.bind (refOf01_f d.natAbs (by omega)) (Ev.bind (refRatioN_f (L:=2) (by omega) (by omega) (by omega)) (Ev.now _)))))
theorem inCell_s{l1:List (List S59)}(hu: ∀row,row∈l1→ ∀x,x∈row→u32s x.f2∧u32s x.f3){i j:Nat}(hi:i< 1000)(hj:j< 1000): ∃r:RatV,Ev (fun k=>inCell k l1 i j) r∧shortR r:=by
 have e:wrap64 ((wrap64 ((i:Int) + (wrap64 (2 * (j:Int))))) +1)=(i:Int) +2 * j+1:=by
  rw[w64 (2 * (j:Int)) (by omega),w64 ((i:Int) +2 * j) (by omega),w64 _ (by omega)]
 obtain⟨r1,h1,v1⟩:=refOfS_s (a:=(i:Int) +2 * j+1) (d:=1) (by omega) (by omega)
 unfold inCell
 rw[e]
 by_cases hd:inDrawn l1 i j=true
 ·have hdd:=hd
  unfold inDrawn at hdd
  simp only[Bool.and_eq_true,decide_eq_true_eq]at hdd
  obtain⟨⟨⟨b1,b2⟩,b3⟩,b4⟩:=hdd
  have eR:l1.getD i [] =l1[i] :=getD_at b1
  have hm:inAt l1 i j∈l1[i] :=by
   unfold inAt
   rw[eR]at b2 ⊢
   rw[getD_at b2]
   exact List.getElem_mem b2
  obtain⟨u2,u3⟩:=hu _ (List.getElem_mem b1) _ hm
  generalize inAt l1 i j=x at b3 b4 u2 u3
  have dig: ∀y:List Int,u32s y→0< y.length→0≤rd y 0∧rd y 0< 4294967296:=fun y hy hl=>by
   have:=rd_at (q:=y) (i:=0) hl
   rw[show((0:Nat):Int)=0 from rfl]at this
   rw[this]
   exact hy _ (List.getElem_mem hl)
  have d2:=dig _ u2 b3
  have d3:=dig _ u3 b4
  have m2:0≤Int.tmod (rd x.f2 0) 90∧Int.tmod (rd x.f2 0) 90< 90:=by rw[Int.tmod_eq_emod_of_nonneg d2.1];omega
  have m3:0≤Int.tmod (rd x.f3 0) 7∧Int.tmod (rd x.f3 0) 7< 7:=by rw[Int.tmod_eq_emod_of_nonneg d3.1];omega
  have e2:wrap64 ((wrap64 (Int.tmod (rd x.f2 0) 90)) - 40)=Int.tmod (rd x.f2 0) 90 - 40:=by rw[w64 (Int.tmod (rd x.f2 0) 90) (by omega),w64 _ (by omega)]
  have e3:wrap64 (1+ (wrap64 (Int.tmod (rd x.f3 0) 7)))=1+Int.tmod (rd x.f3 0) 7:=by rw[w64 (Int.tmod (rd x.f3 0) 7) (by omega),w64 _ (by omega)]
  obtain⟨r2,h2,v2⟩:=refOfS_s (a:=Int.tmod (rd x.f2 0) 90 - 40) (d:=1+Int.tmod (rd x.f3 0) 7) (by omega) (by omega)
  rw[e2,e3]
  exact⟨r2,Ev.bind h1 (Ev.yes hd h2),v2⟩
 ·exact⟨r1,Ev.bind h1 (Ev.no hd (Ev.now _)),v1⟩
theorem insideRow_s{l1:List (List S59)}(hu: ∀row,row∈l1→ ∀x,x∈row→u32s x.f2∧u32s x.f3){i:Nat}(hi:i< 1000): ∀ (bs:List Bool) (j:Nat) (acc:List S59),j+bs.length< 1000→acc.length< 1000000 - bs.length→ ∃r,Ev (fun k=>insideRow k l1 i bs j acc) (acc++r)∧ ∀x,x∈r→shortR (rv x)
 | [],j,acc,_,_=>⟨[],by rw[List.append_nil];exact Ev.con rfl,fun x hx=>by cases hx⟩
 |b::bs,j,acc,hj,ha=>by
  have hj':j+ (bs.length+1)< 1000:=hj
  have ha':acc.length< 1000000 - (bs.length+1):=ha
  have h0:=refOfN_f (n:=0) (by decide)
  rw[ratioR_zero1]at h0
  have cons: ∀ {x:S59} {rs:List S59},shortR (rv x)→(∀y,y∈rs→shortR (rv y))→ ∀y,y∈x::rs→shortR (rv y):=fun hx hr y hy=>by
   rcases List.mem_cons.1 hy with h|h
   ·rw[h];exact hx
   ·exact hr y h
  cases b with
  |true=>
   obtain⟨r,h1,h2⟩:=inCell_s hu hi (j:=j) (by omega)
   obtain⟨rs,h4,h5⟩:=insideRow_s hu hi bs (j+1) (acc++ [sv r]) (by omega) (by simp;omega)
   refine⟨sv r::rs,?_,cons h2 h5⟩
   unfold insideRow
   rw[List.append_assoc]at h4
   exact Ev.bind h0 (Ev.bind (Ev.yes rfl h1) (Ev.yes (by omega) h4))
  |false=>
   obtain⟨rs,h4,h5⟩:=insideRow_s hu hi bs (j+1) (acc++ [zS]) (by omega) (by simp;omega)
   refine⟨zS::rs,?_,cons ⟨by decide,by decide⟩ h5⟩
   unfold insideRow
   rw[List.append_assoc]at h4
   exact Ev.bind h0 (Ev.bind (Ev.no (by decide) (Ev.now _)) (Ev.yes (by omega) h4))
theorem insideRows_s{l1:List (List S59)}(hu: ∀row,row∈l1→ ∀x,x∈row→u32s x.f2∧u32s x.f3){n:Nat}(hn:n< 500): ∀ (ps:List (List Bool)) (i:Nat) (acc:List (List S59)),(∀row,row∈ps→row.length=n)→i+ps.length< 1000→acc.length< 1000000 - ps.length→ ∃r,Ev (fun k=>insideRows k l1 ps i acc) (acc++r)∧ ∀row,row∈r→ ∀x,x∈row→shortR (rv x)
 | [],i,acc,_,_,_=>⟨[],by rw[List.append_nil];exact Ev.con rfl,fun row h=>by cases h⟩
 |p::ps,i,acc,hp,hi,ha=>by
  have hi':i+ (ps.length+1)< 1000:=hi
  have ha':acc.length< 1000000 - (ps.length+1):=ha
  have hl:=hp p (List.mem_cons_self ..)
  obtain⟨r,h1,h2⟩:=insideRow_s hu (i:=i) (by omega) p 0 [] (by omega) (by simp;omega)
  rw[List.nil_append]at h1
  obtain⟨rs,h3,h4⟩:=insideRows_s hu hn ps (i+1) (acc++ [r]) (fun row hr=>hp row (List.mem_cons_of_mem _ hr)) (by omega) (by simp;omega)
  refine⟨r::rs,?_,fun row hr=>?_⟩
  ·unfold insideRows
   rw[List.append_assoc]at h3
   exact Ev.bind h1 (Ev.yes (by omega) h3)
  ·rcases List.mem_cons.1 hr with rfl|h
   ·exact h2
   ·exact h4 row h
theorem inside_both{l1:List (List S59)}(hu: ∀row,row∈l1→ ∀x,x∈row→u32s x.f2∧u32s x.f3){n:Nat}(hn:n< 500){P:List (List Bool)}(hp: ∀row,row∈P→row.length=n)(hP:P.length< 500): ∃M,Ev (fun k=>fluxionlaw19_inside.f k P l1) M∧liesM P M∧ ∀row,row∈M→ ∀x,x∈row→shortR (rv x):=by
 obtain⟨M,h1,h2⟩:=inside_f hu hn hp hP
 obtain⟨r,h3,h4⟩:=insideRows_s hu hn P 0 [] hp (by omega) (by simp;omega)
 have e:M=r:=Ev.uniq h1 h3
 subst e
 exact⟨M,h1,h2,h4⟩
theorem cutRat_id{x:S59}(h:shortR (rv x))(room:Int): ∃u:Int,fluxionref08_CutRat.f x.f0 x.f1 x.f2 x.f3 room=some (x.f0,x.f1,x.f2,x.f3,u):=by
 obtain⟨c,hc⟩: ∃c:Int,mn 130 (mx 2 (wrap64 (Int.tdiv room 2)))=c:=⟨_,rfl⟩
 have hc0:2≤c∧c≤130:=by rw[←hc];unfold mn mx;split<;>split<;>omega
 have h2:x.f2.length≤2:=h.1
 have h3:x.f3.length≤2:=h.2
 have hm: ∀n:Nat,n≤2→mn (n:Int) c=(n:Int):=fun n hn=>by unfold mn;rw[if_neg (by omega)]
 refine⟨wrap64 ((x.f2.length:Int) + (x.f3.length:Int)),?_⟩
 unfold fluxionref08_CutRat.f
 rw[hc,hm _ h2,hm _ h3]
 simp only[Option.bind_some,Int.toNat_natCast,List.nil_append,List.length_nil,Nat.zero_add,List.take_length]
 rw[if_pos (by omega),if_pos (by omega),if_pos (by omega),if_pos (by omega),if_pos (by omega),if_pos (by omega)]
theorem cutRats_id{l:List S59}(hs: ∀x,x∈l→shortR (rv x))(hl:l.length≤100): ∀d i room,i+d=l.length→Ev (fun k=>fluxionref11_CutRats.l0 k l 100 room (l.take i) ((i:Nat):Int)) l:=by
 intro d
 induction d with
 |zero=>
  intro i room hi
  refine Ev.step (fun k=>by rw[fluxionref11_CutRats.l0]) ?_
  exact Ev.no (by omega) (Ev.is (List.take_of_length_le (by omega)))
 |succ d ih=>
  intro i room hi
  have hlt:i< l.length:=by omega
  have ex:rd_T59 l (i:Int)=l[i] :=by unfold rd_T59;rw[Int.toNat_natCast];simp[hlt]
  obtain⟨u,hy⟩:=cutRat_id (hs l[i] (List.getElem_mem hlt)) room
  have hr:=ih (i+1) (wrap64 (room - u)) (by omega)
  have et:l.take (i+1)=l.take i++ [l[i]] :=by rw[List.take_succ_eq_append_getElem hlt]
  rw[et]at hr
  refine Ev.step (fun k=>by rw[fluxionref11_CutRats.l0]) ?_
  rw[ex,w64 ((i:Int) +1) (by omega)]
  exact Ev.yes (by omega) (Ev.yes (by omega) (Ev.yes (by omega) (Ev.bind (Ev.con hy) (Ev.yes (by rw[List.length_take];omega) hr))))
theorem cutMatrix_id{l:List (List S59)}(hs: ∀row,row∈l→row.length≤100∧ ∀x,x∈row→shortR (rv x))(hl:l.length≤100): ∀d i,i+d=l.length→Ev (fun k=>fluxionref14_CutMatrix.l0 k l 100 100 (l.take i) ((i:Nat):Int)) l:=by
 intro d
 induction d with
 |zero=>
  intro i hi
  refine Ev.step (fun k=>by rw[fluxionref14_CutMatrix.l0]) ?_
  exact Ev.no (by omega) (Ev.is (List.take_of_length_le (by omega)))
 |succ d ih=>
  intro i hi
  have hlt:i< l.length:=by omega
  have ex:rd_L5 l (i:Int)=l[i] :=by show l.getD (Int.toNat i) [] =_;rw[Int.toNat_natCast];simp[hlt]
  have h1:=hs l[i] (List.getElem_mem hlt)
  have hy:=cutRats_id h1.2 h1.1 l[i].length 0 60 (by omega)
  have hr:=ih (i+1) (by omega)
  have et:l.take (i+1)=l.take i++ [l[i]] :=by rw[List.take_succ_eq_append_getElem hlt]
  rw[et]at hr
  refine Ev.step (fun k=>by rw[fluxionref14_CutMatrix.l0]) ?_
  rw[ex,w64 ((i:Int) +1) (by omega)]
  exact Ev.yes (by omega) (Ev.yes (by omega) (Ev.yes (by omega) (Ev.bind hy (Ev.yes (by rw[List.length_take];omega) hr))))
theorem rowB_at{P:List (List Bool)}{i:Nat}(h:i< P.length):rd_L6 P (i:Int)=P[i] :=by show P.getD (Int.toNat i) [] =_;rw[Int.toNat_natCast];simp[h]
theorem cutPat_id{P:List (List Bool)}(hs: ∀row,row∈P→row.length≤100)(hl:P.length≤100): ∀d i,i+d=P.length→Ev (fun k=>fluxionref19_Cut.l0 k P 100 100 (P.take i) ((i:Nat):Int)) P:=by
 intro d
 induction d with
 |zero=>
  intro i hi
  refine Ev.step (fun k=>by rw[fluxionref19_Cut.l0]) ?_
  exact Ev.no (by omega) (Ev.is (List.take_of_length_le (by omega)))
 |succ d ih=>
  intro i hi
  have hlt:i< P.length:=by omega
  have h1:=hs P[i] (List.getElem_mem hlt)
  have hr:=ih (i+1) (by omega)
  have et:P.take (i+1)=P.take i++ [P[i]] :=by rw[List.take_succ_eq_append_getElem hlt]
  rw[et]at hr
  have em:mn (P[i].length:Int) 100=(P[i].length:Int):=by unfold mn;rw[if_neg (by omega)]
  refine Ev.step (fun k=>by rw[fluxionref19_Cut.l0]) ?_
  simp only[rowB_at hlt,em,Option.bind_some,List.nil_append,List.length_nil,Int.toNat_natCast,List.take_length]
  rw[w64 ((i:Int) +1) (by omega)]
  exact Ev.yes (by omega) (Ev.yes (by omega) (Ev.yes (by omega) (Ev.yes (by omega) (Ev.yes (by omega) (Ev.yes (by omega) (Ev.yes (by rw[List.length_take];omega) hr))))))
theorem sameB_l1{P:List (List Bool)}(hl:P.length≤100){i:Nat}(hi:i< P.length)(hr:P[i].length≤100)(fin:Ev (fun k=>fluxionref19_Same.l0 k P P ((i+1:Nat):Int)) true): ∀d j,j+d=P[i].length→Ev (fun k=>fluxionref19_Same.l1 k P P (i:Int) ((j:Nat):Int)) true:=by
 intro d
 induction d with
 |zero=>
  intro j hj
  refine Ev.step (fun k=>by rw[fluxionref19_Same.l1]) ?_
  simp only[rowB_at hi]
  rw[w64 ((i:Int) +1) (by omega)]
  exact Ev.yes (by omega) (Ev.yes (by omega) (Ev.no (by omega) fin))
 |succ d ih=>
  intro j hj
  have h:=ih (j+1) (by omega)
  refine Ev.step (fun k=>by rw[fluxionref19_Same.l1]) ?_
  simp only[rowB_at hi]
  rw[w64 ((j:Int) +1) (by omega)]
  exact Ev.yes (by omega) (Ev.yes (by omega) (Ev.yes (by omega) (Ev.yes (by omega) (Ev.yes (by omega) (Ev.yes (by omega) (Ev.no (by simp) h))))))
theorem sameB_l0{P:List (List Bool)}(hl:P.length≤100)(hs: ∀row,row∈P→row.length≤100): ∀d i,i+d=P.length→Ev (fun k=>fluxionref19_Same.l0 k P P ((i:Nat):Int)) true:=by
 intro d
 induction d with
 |zero=>
  intro i hi
  refine Ev.step (fun k=>by rw[fluxionref19_Same.l0]) ?_
  exact Ev.no (by omega) (Ev.now _)
 |succ d ih=>
  intro i hi
  have hlt:i< P.length:=by omega
  have h1:=hs P[i] (List.getElem_mem hlt)
  have h:=sameB_l1 hl hlt h1 (ih (i+1) (by omega)) P[i].length 0 (by omega)
  refine Ev.step (fun k=>by rw[fluxionref19_Same.l0]) ?_
  exact Ev.yes (by omega) (Ev.yes (by omega) (Ev.yes (by omega) (Ev.yes rfl h)))
theorem sameB_f{P:List (List Bool)}(hl:P.length≤100)(hs: ∀row,row∈P→row.length≤100):Ev (fun k=>fluxionref19_Same.f k P P) true:=by
 unfold fluxionref19_Same.f
 exact Ev.yes rfl (sameB_l0 hl hs P.length 0 (by omega))
theorem own_ev{z0:List (List Bool)}{a1:Int}(h1:0≤a1∧a1≤255){l2:List (List S59)}(hu: ∀row,row∈l2→ ∀x,x∈row→u32s x.f2∧u32s x.f3):Ev (fun k=>fluxionlaw19_SparseOwn.f k z0 a1 l2) true:=by
 obtain⟨n,hn9,en⟩: ∃n:Nat,n≤9∧wrap64 (Int.tmod a1 10)=n:=⟨(a1 % 10).toNat,by omega,by
  rw[Int.tmod_eq_emod_of_nonneg h1.1];unfold wrap64;omega⟩
 unfold fluxionlaw19_SparseOwn.f
 rw[en]
 refine Ev.bind (fit_is z0 (by omega)) ?_
 have hP:=fitPat_length z0 n
 have hp:=fitPat_rows z0 n
 have hf:=fitPat_form z0 (n:=n) (by omega)
 generalize fitPat z0 n=P at hP hp hf
 have hr100: ∀row,row∈P→row.length≤100:=fun row hr=>by rw[hp row hr];omega
 refine Ev.bind (show Ev (fun k=>fluxionref19_Cut.f k P 100 100) P from cutPat_id hr100 (by omega) P.length 0 (by omega)) ?_
 obtain⟨M,hM,hl,hsh⟩:=inside_both hu (n:=n) (by omega) hp (by omega)
 obtain⟨L,g1,g3,g4,g5⟩:=greedy (n:=n) (by omega) n [] (by simp) (fitP_nil P) (fun i h=>by simp at h)
 have hL: ∀x,x∈L→inR n x=true:=fun x hx=>by
  obtain⟨i,hi,rfl⟩:=mem_getD hx
  have h2:=g5 i (by omega)
  have h4:=deg_le P i i
  exact inR_iff.2 ⟨h2.1,by omega⟩
 obtain⟨F,s1,s2,s3,s4,m1,m2,m3,m4⟩:=told_round hP (by omega) hf hp hl g4 hL g3
 refine Ev.bind hM (Ev.bind (show Ev (fun k=>fluxionref14_CutMatrix.f k M 100 100) M from cutMatrix_id (fun row hr=>⟨by rw[(m3 row hr).1];omega,hsh row hr⟩) (by omega) M.length 0 (by omega)) ?_)
 refine Ev.bind (Ev.con (sparseColours_ok (by omega) hf g1)) (Ev.bind s1 (Ev.bind s2 ?_))
 obtain⟨K1,k1⟩:=sameB_f (P:=P) (by omega) hr100
 obtain⟨K2,k2⟩:=s3
 have h3:=refInts_f (x:=L) (y:=L) (by omega)
 rw[decide_eq_true rfl]at h3
 obtain⟨K3,k3⟩:=h3
 refine⟨max K1 (max K2 K3),fun k hk=>if_pos ⟨rfl,rfl,rfl,?_,k1 k (by omega),k2 k (by omega),k3 k (by omega),rfl⟩⟩
 show L.length< 1000000
 omega
theorem SparseOwn(z0:List (List Bool))(w0: ∀row∈z0,∀x∈row,True)(a1:Int)(w1:(Lit.int .u8 a1).wf=true)(z2:List (List S59))(w2: ∀row∈z2,∀x∈row,(Lit.int .i64 x.f0).wf=true∧True∧(∀d∈x.f2,(Lit.int .u32 d).wf=true)∧(∀d∈x.f3,(Lit.int .u32 d).wf=true)): ∃k,fluxionlaw19_SparseOwn.f k z0 a1 z2=some true:=by
 have hu: ∀ (x:List Int),(∀d∈x,(Lit.int .u32 d).wf=true)→u32s x:=fun x h d hd=>by
  have:=h d hd
  simp[Lit.wf]at this
  have e1:IntKind.u32.min=0:=by rfl
  have e2:IntKind.u32.max=4294967295:=by rfl
  omega
 have hw:0≤a1∧a1≤255:=by simpa [Lit.wf,IntKind.min,IntKind.max,IntKind.signed,IntKind.bits]using w1
 obtain⟨K,hK⟩:=own_ev (z0:=z0) hw (l2:=z2) (fun row h x hx=>⟨hu _ (w2 row h x hx).2.2.1,hu _ (w2 row h x hx).2.2.2⟩)
 exact⟨K,hK K (Nat.le_refl _)⟩
end Go.Proofs.YtjjbondlcjnaiaaGreat.Pure
