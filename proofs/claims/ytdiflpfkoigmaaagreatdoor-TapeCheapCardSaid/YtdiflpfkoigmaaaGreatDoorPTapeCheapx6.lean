-- written by a program of this session, after the kit's print
import Derived.Test.YtdiflpfkoigmaaaGreatDoorPTapeCheapx4
namespace Go.Proofs.YtdiflpfkoigmaaaGreatDoor.PTapeCheap
open Go.RowKit Go.Proofs.YtdiflpfkoigmaaaGreatDoorW
set_option maxHeartbeats 8000000
set_option maxRecDepth 100000
attribute [local go_sem] max2_int min2_int max_two min_two max_three min_three max_four min_four
set_option linter.unusedVariables false
set_option linter.unusedSimpArgs false
theorem Ev.yes{α:Type}{c:Prop}[Decidable c]{f g:Nat→Option α}{r:α}(h:c)(k:Ev f r):Ev (fun n=>if c then f n else g n) r:=by simpa only[if_pos h]using k
theorem Ev.no{α:Type}{c:Prop}[Decidable c]{f g:Nat→Option α}{r:α}(h: ¬c)(k:Ev g r):Ev (fun n=>if c then f n else g n) r:=by simpa only[if_neg h]using k
theorem Ev.is{α:Type}{a r:α}(h:a=r):Ev (fun _=>some a) r:=h▸Ev.now a
theorem Ev.con{α:Type}{o:Option α}{r:α}(h:o=some r):Ev (fun _=>o) r:=h▸Ev.now r
theorem wnx(i:Nat)(h:i< 4611686018427387904):wrap64 ((i:Int) +1)=((i+1:Nat):Int):=by unfold wrap64;omega
def valN:List Int→Nat
 | [] =>0
 |d::x=>d.toNat+4294967296 * valN x
def digN(n:Nat):List Int:=if h:n=0 then[]else((n % 4294967296:Nat):Int)::digN (n / 4294967296)
 termination_by n
 decreasing_by omega
def u32s(x:List Int):Prop:= ∀d∈x,0≤d∧d< 4294967296
def canon(x:List Int):Prop:=u32s x∧ ∀h:x≠ [],x.getLast h≠0
theorem digN_zero:digN 0= [] :=by rw[digN];simp
theorem digN_pos{n:Nat}(h:n≠0):digN n=((n % 4294967296:Nat):Int)::digN (n / 4294967296):=by rw[digN,dif_neg h]
theorem digN_nil{n:Nat} :digN n= [] ↔n=0:=by
 constructor
 ·intro h;by_cases h0:n=0
  ·exact h0
  ·rw[digN_pos h0]at h;simp at h
 ·rintro rfl;exact digN_zero
theorem val_digN(n:Nat):valN (digN n)=n:=by
 induction n using Nat.strongRecOn with
 |_ n ih=>
  by_cases h:n=0
  ·subst h;rw[digN_zero];rfl
  ·rw[digN_pos h,valN,ih (n / 4294967296) (by omega)];omega
theorem u32s_cons{d:Int}{x:List Int} :u32s (d::x)↔(0≤d∧d< 4294967296)∧u32s x:=by unfold u32s;simp
theorem u32s_nil:u32s [] :=by unfold u32s;simp
theorem u32s_append{x y:List Int} :u32s (x++y)↔u32s x∧u32s y:=by
 unfold u32s;constructor
 ·intro h;exact⟨fun d hd=>h d (by simp[hd]),fun d hd=>h d (by simp[hd])⟩
 ·intro h d hd;rcases List.mem_append.1 hd with hd|hd
  ·exact h.1 d hd
  ·exact h.2 d hd
theorem u32s_digN(n:Nat):u32s (digN n):=by
 induction n using Nat.strongRecOn with
 |_ n ih=>
  by_cases h:n=0
  ·subst h;rw[digN_zero];exact u32s_nil
  ·rw[digN_pos h,u32s_cons];exact⟨by omega,ih (n / 4294967296) (by omega)⟩
theorem canon_digN(n:Nat):canon (digN n):=by
 refine⟨u32s_digN n,?_⟩
 induction n using Nat.strongRecOn with
 |_ n ih=>
  intro h;have h0:n≠0:=fun e=>h (digN_nil.2 e)
  by_cases h1:n / 4294967296=0
  ·have:digN n= [((n % 4294967296:Nat):Int)] :=by rw[digN_pos h0,h1,digN_zero]
   simp only[this,List.getLast_singleton];omega
  ·have hne:digN (n / 4294967296)≠ [] :=fun e=>h1 (digN_nil.1 e)
   have:=ih (n / 4294967296) (by omega) hne
   simp only[digN_pos h0,List.getLast_cons hne];exact this
theorem canon_nil:canon [] :=⟨u32s_nil,fun h=>absurd rfl h⟩
theorem canon_tail{d:Int}{x:List Int}(h:canon (d::x)):canon x:=by
 refine⟨(u32s_cons.1 h.1).2,fun hx=>?_⟩
 have:=h.2 (by simp)
 rw[List.getLast_cons hx]at this;exact this
theorem val_pos{x:List Int}(h:canon x)(hx:x≠ []):0< valN x:=by
 induction x with
 |nil=>exact absurd rfl hx
 |cons d x ih=>
  rw[valN];by_cases hx':x= []
  ·subst hx';have h1:=h.2 (by simp);have h2:=(u32s_cons.1 h.1).1;simp at h1;omega
  ·have:=ih (canon_tail h) hx';omega
theorem digN_val{x:List Int}(h:canon x):digN (valN x)=x:=by
 induction x with
 |nil=>exact digN_zero
 |cons d x ih=>
  have hp:=val_pos h (by simp);have hd:=(u32s_cons.1 h.1).1;have e1:valN (d::x) % 4294967296=d.toNat:=by rw[valN];omega
  have e2:valN (d::x) / 4294967296=valN x:=by rw[valN];omega
  rw[digN_pos (by omega),e1,e2,ih (canon_tail h),Int.toNat_of_nonneg hd.1]
theorem val_append(x y:List Int):valN (x++y)=valN x+4294967296 ^ x.length * valN y:=by
 induction x with
 |nil=>simp[valN]
 |cons d x ih=>rw[List.cons_append,valN,valN,ih,List.length_cons,Nat.pow_succ,Nat.mul_add,Nat.mul_comm (4294967296 ^ x.length) 4294967296,Nat.mul_assoc];omega
theorem val_lt{x:List Int}(h:u32s x):valN x< 4294967296 ^ x.length:=by
 induction x with
 |nil=>simp[valN]
 |cons d x ih=>
  have hd:=(u32s_cons.1 h).1
  have:=ih (u32s_cons.1 h).2
  rw[valN,List.length_cons,Nat.pow_succ];omega
theorem val_ge{x:List Int}(h:canon x){k:Nat}(hx:x.length=k+1):4294967296 ^ k≤valN x:=by
 induction x generalizing k with
 |nil=>simp at hx
 |cons d x ih=>
  cases k with
  |zero=>have:=val_pos h (by simp);rw[Nat.pow_zero];exact this
  |succ k=>have:=ih (canon_tail h) (by simpa using hx);rw[valN,Nat.pow_succ];omega
theorem val_zeros(k:Nat):valN (List.replicate k 0)=0:=by
 induction k with
 |zero=>rfl
 |succ k ih=>rw[List.replicate_succ,valN,ih];rfl
theorem u32s_zeros(k:Nat):u32s (List.replicate k 0):=by intro d hd;rw[List.eq_of_mem_replicate hd];omega
theorem u32s_take{x:List Int}(h:u32s x)(k:Nat):u32s (x.take k):=fun d hd=>h d (List.mem_of_mem_take hd)
theorem u32s_drop{x:List Int}(h:u32s x)(k:Nat):u32s (x.drop k):=fun d hd=>h d (List.mem_of_mem_drop hd)
theorem val_snoc(x:List Int)(d:Int):valN (x++ [d])=valN x+4294967296 ^ x.length * d.toNat:=by rw[val_append];simp[valN]
theorem digN_snoc_zero(x:List Int):digN (valN (x++ [0]))=digN (valN x):=by rw[val_snoc];simp
theorem digN_snoc{x:List Int}(h:u32s x){d:Int}(hd:0< d∧d< 4294967296):digN (valN (x++ [d]))=x++ [d] :=by
 apply digN_val
 refine⟨u32s_append.2 ⟨h,by intro y hy;simp at hy;omega⟩,fun hne=>?_⟩;simp;omega
theorem len_digN_le{n k:Nat}(h:n< 4294967296 ^ k):(digN n).length≤k:=by
 refine Nat.le_of_not_lt fun hk=>?_
 obtain⟨j,hj⟩: ∃j,(digN n).length=j+1:=⟨(digN n).length - 1,by omega⟩;have h1:=val_ge (canon_digN n) hj;rw[val_digN]at h1
 have:4294967296 ^ k≤4294967296 ^ j:=Nat.pow_le_pow_right (by decide) (by omega)
 omega
theorem wpx(i:Nat)(h0:0< i)(h:i< 4611686018427387904):wrap64 ((i:Int) - 1)=((i - 1:Nat):Int):=by unfold wrap64;omega
theorem w64(n:Int)(h: -9223372036854775808≤n∧n≤9223372036854775807):wrap64 n=n:=by unfold wrap64;omega
theorem u64w(n:Int)(h:0≤n∧n< 18446744073709551616):IntKind.u64.wrap n=n:=by rw[IntKind.wrap_u64];omega
theorem powB(i:Nat):(4294967296:Nat) ^ (i+1)=4294967296 ^ i * 4294967296:=by rw[Nat.pow_succ]
def dgt(x:List Int)(i:Nat):Nat:=(x.getD i 0).toNat
theorem getD_u32{x:List Int}(h:u32s x)(i:Nat):0≤x.getD i 0∧x.getD i 0< 4294967296:=by
 by_cases hi:i< x.length
 ·have e:x.getD i 0=x[i] :=by simp[List.getD_eq_getElem?_getD,hi]
  rw[e];exact h _ (List.getElem_mem hi)
 ·have e:x.getD i 0=0:=by simp[List.getD_eq_getElem?_getD,List.getElem?_eq_none (show x.length≤i by omega)]
  rw[e];omega
theorem dgt_lt{x:List Int}(h:u32s x)(i:Nat):dgt x i< 4294967296:=by have:=getD_u32 h i;unfold dgt;omega
theorem dgt_int{x:List Int}(h:u32s x)(i:Nat):((dgt x i:Nat):Int)=x.getD i 0:=by have:=getD_u32 h i;unfold dgt;omega
theorem rd_dgt{x:List Int}(h:u32s x)(i:Nat):rd x (i:Int)=((dgt x i:Nat):Int):=(dgt_int h i).symm
theorem dgt_high{x:List Int}{i:Nat}(h:x.length≤i):dgt x i=0:=by unfold dgt;simp[List.getD_eq_getElem?_getD,List.getElem?_eq_none h]
theorem val_take_succ(x:List Int)(i:Nat):valN (x.take (i+1))=valN (x.take i) +4294967296 ^ i * dgt x i:=by
 by_cases h:i< x.length
 ·rw[List.take_succ_eq_append_getElem h,val_snoc,List.length_take,Nat.min_eq_left (by omega)];unfold dgt;simp[List.getD_eq_getElem?_getD,h]
 ·rw[dgt_high (by omega),List.take_of_length_le (by omega),List.take_of_length_le (by omega)];simp
theorem val_take_len{x:List Int}{i:Nat}(h:x.length≤i):valN (x.take i)=valN x:=by rw[List.take_of_length_le h]
theorem u32s_set{x:List Int}(h:u32s x)(i:Nat){d:Int}(hd:0≤d∧d< 4294967296):u32s (x.set i d):=by
 intro y hy;rcases List.mem_or_eq_of_mem_set hy with hy|rfl
 ·exact h y hy
 ·exact hd
theorem val_take_set{x:List Int}{i:Nat}(h:i< x.length)(d:Int):valN ((x.set i d).take (i+1))=valN (x.take i) +4294967296 ^ i * d.toNat:=by
 rw[val_take_succ];have e1:(x.set i d).take i=x.take i:=by rw[List.take_set_of_le (Nat.le_refl i)]
 have e2:dgt (x.set i d) i=d.toNat:=by unfold dgt;simp[List.getD_eq_getElem?_getD,h]
 rw[e1,e2]
theorem dgt_set{x:List Int}{i j:Nat}(h:i< x.length)(d:Int):dgt (x.set i d) j=if j=i then d.toNat else dgt x j:=by
 unfold dgt;simp only[List.getD_eq_getElem?_getD,List.getElem?_set];by_cases hj:j=i
 ·subst hj;simp[h]
 ·simp[hj,show¬i=j by omega]
theorem val_set{x:List Int}{i:Nat}(h:i< x.length)(d:Int):valN (x.set i d) +4294967296 ^ i * dgt x i=valN x+4294967296 ^ i * d.toNat:=by
 induction x generalizing i with
 |nil=>simp at h
 |cons a x ih=>
  cases i with
  |zero=>simp[valN,dgt];omega
  |succ i=>
   have:=ih (i:=i) (by simpa using h)
   have e:dgt (a::x) (i+1)=dgt x i:=by unfold dgt;simp
   rw[e,List.set_cons_succ,valN,valN,Nat.pow_succ];generalize valN (x.set i d)=A at *;generalize valN x=C at *;have e1:4294967296 ^ i * 4294967296 * dgt x i=4294967296 * (4294967296 ^ i * dgt x i):=by rw[Nat.mul_comm (4294967296 ^ i) 4294967296,Nat.mul_assoc]
   have e2:4294967296 ^ i * 4294967296 * d.toNat=4294967296 * (4294967296 ^ i * d.toNat):=by rw[Nat.mul_comm (4294967296 ^ i) 4294967296,Nat.mul_assoc]
   rw[e1,e2];omega
theorem canon_len_le{x y:List Int}(hx:canon x)(hy:u32s y)(h:valN x≤valN y):x.length≤y.length:=by
 refine Nat.le_of_not_lt fun hl=>?_
 obtain⟨k,hk⟩: ∃k,x.length=k+1:=⟨x.length - 1,by omega⟩;have h1:=val_ge hx hk;have h2:=val_lt hy
 have:4294967296 ^ y.length≤4294967296 ^ k:=Nat.pow_le_pow_right (by decide) (by omega)
 omega
theorem trim_is: ∀ (n:Nat) (x:List Int),x.length=n→u32s x→x.length< 4294967296→Ev (fun k=>nat_trim.l0 k x) (digN (valN x))
 |0,x,hn,_,_=>by
  refine Ev.step (fun k=>by rw[nat_trim.l0]) ?_
  have e:x= [] :=List.length_eq_zero_iff.1 hn
  subst e
  refine Ev.no (by simp) (Ev.is ?_)
  exact digN_zero.symm
 |n+1,x,hn,hu,hl=>by
  have hx:x≠ [] :=by intro e;rw[e]at hn;simp at hn
  obtain⟨y,d,rfl⟩: ∃y d,x=y++ [d] :=⟨x.dropLast,x.getLast hx,(List.dropLast_concat_getLast hx).symm⟩
  have hy:y.length=n:=by simpa using hn
  have hlen:(y++ [d]).length=n+1:=hn
  refine Ev.step (fun k=>by rw[nat_trim.l0]) ?_
  rw[hlen,wpx (n+1) (by omega) (by omega),Nat.add_sub_cancel]
  have er:rd (y++ [d]) (n:Int)=d:=by show(y++ [d]).getD n 0=d;rw[←hy];simp[List.getD_eq_getElem?_getD]
  rw[er]
  have hu':=u32s_append.1 hu
  refine Ev.yes (by omega) (Ev.yes (by omega) (Ev.yes (by omega) ?_))
  by_cases hd:d=0
  ·subst hd
   refine Ev.yes rfl (Ev.yes (by omega) ?_)
   have et:(y++ [(0:Int)]).take ((n:Int)).toNat=y:=by rw[Int.toNat_natCast,←hy,List.take_left'];rfl
   rw[et,digN_snoc_zero]
   exact trim_is n y hy hu'.1 (by omega)
  ·refine Ev.no hd (Ev.is ?_)
   have:=(u32s_cons.1 hu'.2).1
   exact(digN_snoc hu'.1 (by omega)).symm
theorem trim_f{x:List Int}(hu:u32s x)(hl:x.length< 4294967296):Ev (fun k=>nat_trim.f k x) (digN (valN x)):=trim_is x.length x rfl hu hl
def cmpI(a b:Nat):Int:=if a< b then -1 else if b< a then 1 else 0
theorem cmp_lt{a b:Nat}(h:a< b):cmpI a b= -1:=if_pos h
theorem cmp_gt{a b:Nat}(h:b< a):cmpI a b=1:=by unfold cmpI;rw[if_neg (by omega),if_pos h]
theorem cmp_eq(a:Nat):cmpI a a=0:=by unfold cmpI;rw[if_neg (Nat.lt_irrefl a),if_neg (Nat.lt_irrefl a)]
theorem cmp_top{a b i:Nat}{x y:Nat}(ha:a< 4294967296 ^ i)(hb:b< 4294967296 ^ i)(h:x< y):a+4294967296 ^ i * x< b+4294967296 ^ i * y:=by
 obtain⟨k,rfl⟩: ∃k,y=x+1+k:=⟨y - x - 1,by omega⟩;generalize 4294967296 ^ i=B at *
 have:B * (x+1+k)=B * x+B+B * k:=by rw[Nat.mul_add,Nat.mul_add,Nat.mul_one]
 rw[this];omega
theorem val_take_lt{x:List Int}(h:u32s x)(i:Nat):valN (x.take i)< 4294967296 ^ i:=
 Nat.lt_of_lt_of_le (val_lt (u32s_take h i)) (Nat.pow_le_pow_right (by decide) (by simp;omega))
theorem canon_lt_len{x y:List Int}(hx:u32s x)(hy:canon y)(h:x.length< y.length):valN x< valN y:=by
 refine Nat.lt_of_not_le fun hl=>?_
 have:=canon_len_le hy hx hl;omega
theorem val_drop{x:List Int}{i:Nat} :valN (x.drop i)=dgt x i+4294967296 * valN (x.drop (i+1)):=by
 by_cases h:i< x.length
 ·rw[List.drop_eq_getElem_cons h,valN];unfold dgt;simp[List.getD_eq_getElem?_getD,h]
 ·rw[List.drop_eq_nil_of_le (by omega),List.drop_eq_nil_of_le (by omega),dgt_high (by omega)];rfl
theorem or_add(a b i:Nat)(h:b< 2 ^ i):2 ^ i * a|||b=2 ^ i * a+b:=(Nat.two_pow_add_eq_or_of_lt h a).symm
theorem val_drop_set{x:List Int}{i:Nat}(h:i< x.length)(d:Int):valN ((x.set i d).drop i)=d.toNat+4294967296 * valN (x.drop (i+1)):=by
 rw[val_drop];have e1:(x.set i d).drop (i+1)=x.drop (i+1):=by rw[List.drop_set_of_lt (by omega)]
 rw[e1,dgt_set h,if_pos rfl]
theorem bits_or_u32_nat(a b:Nat)(ha:a< 4294967296)(hb:b< 4294967296):Go.bits .or .u32 (a:Int) (b:Int)=((a|||b:Nat):Int):=by
 have hx:a|||b< 2 ^ 32:=Nat.or_lt_two_pow (by omega) (by omega)
 have h1:(BitVec.ofInt 32 (a:Int)).toNat=a:=by rw[BitVec.ofInt_natCast,BitVec.toNat_ofNat];exact Nat.mod_eq_of_lt (by omega)
 have h2:(BitVec.ofInt 32 (b:Int)).toNat=b:=by rw[BitVec.ofInt_natCast,BitVec.toNat_ofNat];exact Nat.mod_eq_of_lt (by omega)
 show IntKind.u32.wrap ((BitVec.ofInt 32 (a:Int) |||BitVec.ofInt 32 (b:Int)).toNat:Int)=_
 rw[BitVec.toNat_or,h1,h2,IntKind.wrap_u32];omega
theorem bits_or_u64n(a b:Nat)(ha:a< 18446744073709551616)(hb:b< 18446744073709551616):Go.bits .or .u64 (a:Int) (b:Int)=((a|||b:Nat):Int):=by
 have hx:a|||b< 2 ^ 64:=Nat.or_lt_two_pow (by omega) (by omega)
 have h1:(BitVec.ofInt 64 (a:Int)).toNat=a:=by rw[BitVec.ofInt_natCast,BitVec.toNat_ofNat];exact Nat.mod_eq_of_lt (by omega)
 have h2:(BitVec.ofInt 64 (b:Int)).toNat=b:=by rw[BitVec.ofInt_natCast,BitVec.toNat_ofNat];exact Nat.mod_eq_of_lt (by omega)
 show IntKind.u64.wrap ((BitVec.ofInt 64 (a:Int) |||BitVec.ofInt 64 (b:Int)).toNat:Int)=_
 rw[BitVec.toNat_or,h1,h2,IntKind.wrap_u64];omega
theorem bits_and_u64n(a b:Nat)(ha:a< 18446744073709551616)(hb:b< 18446744073709551616):Go.bits .and .u64 (a:Int) (b:Int)=((a &&& b:Nat):Int):=by
 have hx:a &&& b< 2 ^ 64:=Nat.and_lt_two_pow _ (by omega);have h1:(BitVec.ofInt 64 (a:Int)).toNat=a:=by rw[BitVec.ofInt_natCast,BitVec.toNat_ofNat];exact Nat.mod_eq_of_lt (by omega)
 have h2:(BitVec.ofInt 64 (b:Int)).toNat=b:=by rw[BitVec.ofInt_natCast,BitVec.toNat_ofNat];exact Nat.mod_eq_of_lt (by omega)
 show IntKind.u64.wrap ((BitVec.ofInt 64 (a:Int) &&& BitVec.ofInt 64 (b:Int)).toNat:Int)=_
 rw[BitVec.toNat_and,h1,h2,IntKind.wrap_u64];omega
theorem natCompare_l0{x y:List Int}(hx:u32s x)(hy:u32s y)(hl:x.length=y.length)(hs:x.length< 4294967296): ∀i,i≤x.length→Ev (fun k=>nat_compare.l0 k x y ((i:Int) - 1)) (cmpI (valN (x.take i)) (valN (y.take i)))
 |0,hi=>by
  refine Ev.step (fun k=>by rw[nat_compare.l0]) ?_
  exact Ev.no (by omega) (Ev.is (cmp_eq _).symm)
 |i+1,hi=>by
  refine Ev.step (fun k=>by rw[nat_compare.l0]) ?_
  have e:((i+1:Nat):Int) - 1=(i:Int):=by omega
  rw[e,rd_dgt hx,rd_dgt hy,w64 _ (by omega)]
  refine Ev.yes (by omega) (Ev.yes (by omega) (Ev.yes (by omega) (Ev.yes (by omega) ?_)))
  have h1:=val_take_lt hx i
  have h2:=val_take_lt hy i
  rw[val_take_succ,val_take_succ]
  by_cases he:dgt x i=dgt y i
  ·refine Ev.yes (by omega) ?_
   have ih:=natCompare_l0 hx hy hl hs i (by omega)
   rw[he]
   have:cmpI (valN (x.take i) +4294967296 ^ i * dgt y i) (valN (y.take i) +4294967296 ^ i * dgt y i)=cmpI (valN (x.take i)) (valN (y.take i)):=by
    unfold cmpI;generalize 4294967296 ^ i * dgt y i=c;simp
   rw[this];exact ih
  ·refine Ev.no (by omega) ?_;by_cases ha:dgt x i< dgt y i
   ·exact Ev.yes (by omega) (Ev.is (cmp_lt (cmp_top h1 h2 ha)).symm)
   ·exact Ev.no (by omega) (Ev.is (cmp_gt (cmp_top h2 h1 (by omega))).symm)
theorem natCompare_f{x y:List Int}(hx:canon x)(hy:canon y)(hs:x.length< 4294967296):Ev (fun k=>nat_compare.f k x y) (cmpI (valN x) (valN y)):=by
 unfold nat_compare.f;by_cases h:x.length< y.length
 ·exact Ev.yes (by omega) (Ev.is (cmp_lt (canon_lt_len hx.1 hy h)).symm)
 ·refine Ev.no (by omega) ?_;by_cases h2:y.length< x.length
  ·exact Ev.yes (by omega) (Ev.is (cmp_gt (canon_lt_len hy.1 hx h2)).symm)
  ·refine Ev.no (by omega) ?_
   have:=natCompare_l0 hx.1 hy.1 (by omega) hs x.length (Nat.le_refl _)
   rw[w64 _ (by omega)];rw[List.take_length,val_take_len (by omega)]at this;exact this
theorem natAt_f{x:List Int}(hx:u32s x)(i:Nat):nat_at.f x i=some ((dgt x i:Nat):Int):=by
 unfold nat_at.f;by_cases h:i< x.length
 ·have:=dgt_lt hx i
  rw[if_pos (by omega),if_pos (by omega),rd_dgt hx,u64w _ (by omega)]
 ·rw[if_neg (by omega),dgt_high (by omega)];rfl
theorem div_digit{r d y:Nat}(hr:r< y)(hd:d< 4294967296):(r * 4294967296+d) / y< 4294967296:=by
 rw[Nat.div_lt_iff_lt_mul (by omega)]
 have:(r+1) * 4294967296≤y * 4294967296:=Nat.mul_le_mul_right _ hr
 omega
theorem natShort_l0{x:List Int}(hx:u32s x)(hs:x.length< 4294967000){y:Nat}(hy0:0< y)(hy:y< 4294967296): ∀i (o:List Int) (r:Nat),i≤x.length→o.length=x.length→u32s o→r< y→valN (x.drop i)=y * valN (o.drop i) +r→
  Ev (fun k=>nat_short.l0 k x y o r ((i:Int) - 1)) (digN (valN x / y),((valN x % y:Nat):Int)):=by
 intro i
 induction i with
 |zero=>
  intro o r hi ho hu hr hv;refine Ev.step (fun k=>by rw[nat_short.l0]) ?_;refine Ev.no (by omega) ?_;rw[List.drop_zero,List.drop_zero]at hv;have e1:valN x / y=valN o:=by rw[hv,Nat.mul_add_div hy0,Nat.div_eq_of_lt hr,Nat.add_zero]
  have e2:valN x % y=r:=by rw[hv,Nat.mul_add_mod,Nat.mod_eq_of_lt hr]
  have e3:(r:Int) % 4294967296=(r:Int):=by omega
  rw[e1,e2,e3];exact Ev.bind (trim_f hu (by omega)) (Ev.now _)
 |succ i ih=>
  intro o r hi ho hu hr hv;refine Ev.step (fun k=>by rw[nat_short.l0]) ?_;have e:((i+1:Nat):Int) - 1=(i:Int):=by omega
  have hd:=dgt_lt hx i;have hq:=div_digit (d:=dgt x i) hr hd;have hm:=Nat.mod_lt (r * 4294967296+dgt x i) hy0;have ew:Go.bits .or .u64 (IntKind.u64.wrap ((r:Int) * 4294967296)) (IntKind.u64.wrap ((dgt x i:Nat):Int))=((r * 4294967296+dgt x i:Nat):Int):=by
   have h1:(r:Int) * 4294967296=((2 ^ 32 * r:Nat):Int):=by omega
   rw[u64w _ (by omega),u64w ((dgt x i:Nat):Int) (by omega),h1,bits_or_u64n _ _ (by omega) (by omega),or_add _ _ _ (by omega)];omega
  rw[e,rd_dgt hx,ew,u64w (y:Int) (by omega),w64 ((i:Int) - 1) (by omega)];have e1:Int.tdiv ((r * 4294967296+dgt x i:Nat):Int) (y:Int)=(((r * 4294967296+dgt x i) / y:Nat):Int):=by rw[Int.tdiv_eq_ediv_of_nonneg (Int.natCast_nonneg _)];rfl
  have e2:Int.tmod ((r * 4294967296+dgt x i:Nat):Int) (y:Int)=(((r * 4294967296+dgt x i) % y:Nat):Int):=by rw[Int.tmod_eq_emod_of_nonneg (Int.natCast_nonneg _)];rfl
  have hdm:=Nat.div_add_mod (r * 4294967296+dgt x i) y;rw[e1,e2];generalize (r * 4294967296+dgt x i) / y=q at *;generalize (r * 4294967296+dgt x i) % y=m at *;refine Ev.yes (by omega) (Ev.yes (by omega) (Ev.yes (by omega) (Ev.no (by omega) (Ev.yes (by omega) ?_))));have e3:IntKind.u64.wrap (q:Int) % 4294967296=(q:Int):=by rw[u64w _ (by omega)];omega
  have e4:(q:Int) % 4294967296=(q:Int):=by omega
  first|rw[e3] |rw[e4]
  rw[Int.toNat_natCast];refine ih _ _ (by omega) (by rw[List.length_set];exact ho) (u32s_set hu i (by omega)) hm ?_;rw[val_drop_set (by omega),val_drop,Int.toNat_natCast,hv];have k1:4294967296 * (y * valN (o.drop (i+1)) +r)=y * (4294967296 * valN (o.drop (i+1))) +4294967296 * r:=by rw[Nat.mul_add,Nat.mul_left_comm]
  have k2:y * (q+4294967296 * valN (o.drop (i+1)))=y * q+y * (4294967296 * valN (o.drop (i+1))):=Nat.mul_add _ _ _;rw[k1,k2];generalize y * (4294967296 * valN (o.drop (i+1)))=z at *;generalize y * q=z2 at *;omega
theorem natShort_f{x:List Int}(hx:u32s x)(hs:x.length< 4294967000){y:Nat}(hy0:0< y)(hy:y< 4294967296):Ev (fun k=>nat_short.f k x y) (digN (valN x / y),((valN x % y:Nat):Int)):=by
 unfold nat_short.f;refine Ev.yes (by omega) (Ev.yes (by omega) ?_);rw[w64 _ (by omega),Int.toNat_natCast];exact natShort_l0 hx hs hy0 hy x.length _ 0 (by omega) List.length_replicate (u32s_zeros _) hy0 (by rw[List.drop_length,List.drop_eq_nil_of_le (by simp)];simp[valN])
theorem shl_u64(d n:Nat)(hd:d< 4294967296)(hn:n< 32):shl .u64 (d:Int) (n:Int)=((2 ^ n * d:Nat):Int)∧2 ^ n * d< 9223372036854775808:=by
 have h:2 ^ n≤2147483648:=Nat.le_trans (Nat.pow_le_pow_right (by decide) (show n≤31 by omega)) (by decide);have e:min ((n:Int)).toNat (IntKind.bits .u64)=n:=by show min n 64=n;omega
 have e2:(d:Int) * 2 ^ n=((2 ^ n * d:Nat):Int):=by rw[Nat.mul_comm];simp
 have h2:2 ^ n * d< 9223372036854775808:=Nat.lt_of_le_of_lt (Nat.mul_le_mul_right _ h) (by omega);refine⟨?_,h2⟩;unfold shl;rw[e,e2];generalize 2 ^ n * d=z at h2 ⊢;rw[u64w _ (by omega)]
theorem natLeft_l0{x:List Int}(hx:u32s x)(hs:x.length< 4294967000){n:Nat}(hn:n< 32)(R:List Int)(fin: ∀o,u32s o→o.length=x.length+1→valN o=2 ^ n * valN x→o=R): ∀d i (o:List Int),i+d=x.length→o.length=x.length+1→u32s o→dgt o i< 2 ^ n→(∀j,i< j→dgt o j=0)→valN o=2 ^ n * valN (x.take i)→
  Ev (fun k=>nat_left.l0 k n o x x.length i) R:=by
 intro d
 induction d with
 |zero=>
  intro i o hi ho hu hc hz hv;refine Ev.step (fun k=>by rw[nat_left.l0]) ?_;refine Ev.no (by omega) (Ev.is (fin o hu ho ?_));rw[hv,val_take_len (by omega)]
 |succ d ih=>
  intro i o hi ho hu hc hz hv;have hd:=dgt_lt hx i;obtain⟨e1,e2⟩:=shl_u64 (dgt x i) n hd hn;have e3:IntKind.u64.wrap ((dgt x i:Nat):Int)=((dgt x i:Nat):Int):=u64w _ (by omega);refine Ev.step (fun k=>by rw[nat_left.l0]) ?_;rw[rd_dgt hx,rd_dgt hu,e3,e1,wnx i (by omega),Int.toNat_natCast,Int.toNat_natCast];refine Ev.yes (by omega) (Ev.yes (by omega) (Ev.yes (by omega) (Ev.yes (by omega) (Ev.yes (by omega) (Ev.yes (by omega) (Ev.yes (by omega) ?_))))));obtain⟨m,hm⟩: ∃m,4294967296=2 ^ n * m:=⟨2 ^ (32 - n),by rw[←Nat.pow_add,show n+ (32 - n)=32 by omega]⟩;have hlow:2 ^ n * dgt x i % 4294967296=2 ^ n * (dgt x i % m):=by rw[hm,Nat.mul_mod_mul_left]
  have hcar:2 ^ n * dgt x i / 4294967296< 2 ^ n:=by
   rw[Nat.div_lt_iff_lt_mul (by decide)];exact Nat.mul_lt_mul_of_pos_left hd (Nat.pow_pos (by decide))
  have h31:2 ^ n≤2147483648:=Nat.le_trans (Nat.pow_le_pow_right (by decide) (show n≤31 by omega)) (by decide);have hlo:dgt o i=dgt o i:=rfl;have hdm:=Nat.div_add_mod (2 ^ n * dgt x i) 4294967296;have hml:=Nat.mod_lt (2 ^ n * dgt x i) (show 0< 4294967296 by decide);have hor:dgt o i||| (2 ^ n * dgt x i % 4294967296)=2 ^ n * dgt x i % 4294967296+dgt o i:=by rw[hlow,Nat.or_comm,or_add _ _ _ hc]
  have hsum:2 ^ n * dgt x i % 4294967296+dgt o i< 4294967296:=by rw[←hor];exact Nat.or_lt_two_pow (n:=32) (dgt_lt hu i) hml
  have c1:((2 ^ n * dgt x i:Nat):Int) % 4294967296=((2 ^ n * dgt x i % 4294967296:Nat):Int):=by generalize 2 ^ n * dgt x i=z;omega
  have c2:((2 ^ n * dgt x i:Nat):Int) / 4294967296 % 4294967296=((2 ^ n * dgt x i / 4294967296:Nat):Int):=by generalize 2 ^ n * dgt x i=z at e2 ⊢;omega
  rw[c1,c2,bits_or_u32_nat _ _ (dgt_lt hu i) hml,hor];have hu1:=u32s_set hu i (d:=((2 ^ n * dgt x i % 4294967296+dgt o i:Nat):Int)) (by omega);have hl1:(o.set i ((2 ^ n * dgt x i % 4294967296+dgt o i:Nat):Int)).length=x.length+1:=by rw[List.length_set];exact ho
  have v1:=val_set (x:=o) (i:=i) (by omega) ((2 ^ n * dgt x i % 4294967296+dgt o i:Nat):Int);have v2:=val_set (x:=o.set i ((2 ^ n * dgt x i % 4294967296+dgt o i:Nat):Int)) (i:=i+1) (by omega) ((2 ^ n * dgt x i / 4294967296:Nat):Int);rw[dgt_set (by omega),if_neg (by omega),hz (i+1) (by omega)]at v2;rw[Int.toNat_natCast]at v1 v2;refine ih (i+1) _ (by omega) (by rw[List.length_set];exact hl1) (u32s_set hu1 _ (by omega)) ?_ (fun j hj=>?_) ?_
  ·rw[dgt_set (by omega),if_pos rfl,Int.toNat_natCast];exact hcar
  ·rw[dgt_set (by omega),if_neg (by omega),dgt_set (by omega),if_neg (by omega)];exact hz j (by omega)
  ·rw[val_take_succ,Nat.mul_add];rw[hv]at v1;rw[powB]at v2;generalize valN (x.take i)=X at *;generalize hW:valN ((o.set i ((2 ^ n * dgt x i % 4294967296+dgt o i:Nat):Int)).set (i+1) ((2 ^ n * dgt x i / 4294967296:Nat):Int))=W at *;generalize valN (o.set i ((2 ^ n * dgt x i % 4294967296+dgt o i:Nat):Int))=V at *;have k1:2 ^ n * (4294967296 ^ i * dgt x i)=4294967296 ^ i * (4294967296 * (2 ^ n * dgt x i / 4294967296) +2 ^ n * dgt x i % 4294967296):=by rw[hdm,Nat.mul_left_comm]
   rw[k1,Nat.mul_add];rw[Nat.mul_add]at v1;have k2:4294967296 ^ i * 4294967296 * (2 ^ n * dgt x i / 4294967296)=4294967296 ^ i * (4294967296 * (2 ^ n * dgt x i / 4294967296)):=Nat.mul_assoc _ _ _;rw[k2]at v2;generalize 4294967296 ^ i * (4294967296 * (2 ^ n * dgt x i / 4294967296))=z1 at *;generalize 4294967296 ^ i * (2 ^ n * dgt x i % 4294967296)=z2 at *;generalize 4294967296 ^ i * dgt o i=z3 at *;omega
theorem len_val_zeros{o:List Int}(hu:u32s o){k:Nat}(h:o.length=k){v:Nat}(hv:valN o=v){o':List Int}(hu':u32s o')(h':o'.length=k)(hv':valN o'=v):o=o':=by
 induction o generalizing o' k v with
 |nil=>cases o' with
  |nil=>rfl
  |cons a o'=>simp at h h';omega
 |cons a o ih=>
  cases o' with
  |nil=>simp at h h';omega
  |cons b o'=>
   have h1:=(u32s_cons.1 hu).1;have h2:=(u32s_cons.1 hu').1;rw[valN]at hv hv';have e1:a=b:=by omega
   have e2:valN o=valN o':=by omega
   rw[e1,ih (u32s_cons.1 hu).2 rfl rfl (u32s_cons.1 hu').2 (by simp at h h';omega) e2.symm]
def padN(k n:Nat):List Int:=digN n++List.replicate (k - (digN n).length) 0
theorem padN_facts{k n:Nat}(h:n< 4294967296 ^ k):u32s (padN k n)∧(padN k n).length=k∧valN (padN k n)=n:=by
 have:=len_digN_le h
 refine⟨u32s_append.2 ⟨u32s_digN n,u32s_zeros _⟩,by unfold padN;simp;omega,by unfold padN;rw[val_append,val_digN,val_zeros];rfl⟩
theorem padN_is{o:List Int}(hu:u32s o):o=padN o.length (valN o):=by
 have h:=padN_facts (val_lt hu);exact len_val_zeros hu rfl rfl h.1 h.2.1 h.2.2
theorem natLeft_f{x:List Int}(hx:u32s x)(hs:x.length< 4294967000){n:Nat}(hn:n< 32):Ev (fun k=>nat_left.f k x n) (padN (x.length+1) (2 ^ n * valN x)):=by
 unfold nat_left.f;rw[wnx _ (by omega)];refine Ev.yes (by omega) (Ev.yes (by omega) ?_);rw[Int.toNat_natCast];refine natLeft_l0 hx hs hn _ (fun o hu ho hv=>?_) x.length 0 _ (by omega) (by simp) (u32s_zeros _) ?_ (fun j hj=>?_) ?_
 ·rw[←ho,←hv];exact padN_is hu
 ·have:dgt (List.replicate (x.length+1) 0) 0=0:=by unfold dgt;simp[List.getD_eq_getElem?_getD]
  rw[this];exact Nat.pow_pos (by decide)
 ·unfold dgt;simp[List.getD_eq_getElem?_getD,List.getElem?_replicate];split<;>simp
 ·rw[val_zeros];simp[valN]
theorem natGive_l0{u v:List Int}(hv:u32s v)(hs:u.length< 4294967000)(fin:List Int→Prop): ∀d i (o:List Int) (c:Nat),i+d=u.length→o.length=u.length→u32s o→(∀j,i≤j→dgt o j=dgt u j)→c≤1→valN (o.take i) +c * 4294967296 ^ i=valN (u.take i) +valN (v.take i)→
  ∃o',Ev (fun k=>nat_give.l0 k o v c u.length i) o'∧u32s o'∧o'.length=u.length∧ ∃c',c'≤1∧valN o'+c' * 4294967296 ^ u.length=valN u+valN (v.take u.length):=by
 intro d
 induction d with
 |zero=>
  intro i o c hi ho hu he hc hval;have e:i=u.length:=by omega
  subst e;refine⟨o,?_,hu,ho,c,hc,?_⟩
  ·refine Ev.step (fun k=>by rw[nat_give.l0]) ?_;exact Ev.no (by omega) (Ev.now _)
  ·rw[val_take_len (by omega),List.take_length]at hval;exact hval
 |succ d ih=>
  intro i o c hi ho hu he hc hval;have h1:=dgt_lt hu i;have h2:=dgt_lt hv i;have hs1:IntKind.u64.wrap ((c:Int) +IntKind.u64.wrap (IntKind.u64.wrap ((dgt o i:Nat):Int) + ((dgt v i:Nat):Int)))=((c+ (dgt o i+dgt v i):Nat):Int):=by
   rw[u64w ((dgt o i:Nat):Int) (by omega),u64w (((dgt o i:Nat):Int) + ((dgt v i:Nat):Int)) (by omega),u64w _ (by omega)];omega
  have e1:((c+ (dgt o i+dgt v i):Nat):Int) % 4294967296=(((c+ (dgt o i+dgt v i)) % 4294967296:Nat):Int):=by omega
  have e2:((c+ (dgt o i+dgt v i):Nat):Int) / 4294967296=(((c+ (dgt o i+dgt v i)) / 4294967296:Nat):Int):=by omega
  obtain⟨o',g1,g2⟩:=ih (i+1) (o.set i (((c+ (dgt o i+dgt v i)) % 4294967296:Nat):Int)) ((c+ (dgt o i+dgt v i)) / 4294967296) (by omega) (by rw[List.length_set];exact ho) (u32s_set hu i (by omega)) (fun j hj=>by rw[dgt_set (by omega),if_neg (by omega)];exact he j (by omega)) (by omega) (by
   rw[val_take_set (by omega),val_take_succ,val_take_succ,Int.toNat_natCast,powB,←he i (Nat.le_refl _)];have hdm:=Nat.div_add_mod (c+ (dgt o i+dgt v i)) 4294967296;generalize (c+ (dgt o i+dgt v i)) % 4294967296=r at *;generalize (c+ (dgt o i+dgt v i)) / 4294967296=q at *;generalize 4294967296 ^ i=B at *;have k2:B * (4294967296 * q+r)=B * (c+ (dgt o i+dgt v i)):=by rw[hdm]
   rw[Nat.mul_add,Nat.mul_add,Nat.mul_add]at k2;have k3:q * (B * 4294967296)=B * (4294967296 * q):=by rw[Nat.mul_comm q,Nat.mul_assoc]
   rw[k3];rw[Nat.mul_comm c B]at hval;generalize B * (4294967296 * q)=z1 at *;generalize B * r=z2 at *;generalize B * c=z3 at *;generalize B * dgt o i=z4 at *;generalize B * dgt v i=z5 at *;omega)
  refine⟨o',?_,g2⟩;refine Ev.step (fun k=>by rw[nat_give.l0]) ?_;refine Ev.yes (by omega) (Ev.yes (by omega) (Ev.yes (by omega) ?_));refine Ev.bind (Ev.con (natAt_f hv i)) ?_;rw[rd_dgt hu,hs1,e1,e2,wnx i (by omega),Int.toNat_natCast];exact g1
theorem natGive_f{u v:List Int}(hu:u32s u)(hv:u32s v)(hs:u.length< 4294967000):
  ∃o',Ev (fun k=>nat_give.f k u v) o'∧u32s o'∧o'.length=u.length∧ ∃c',c'≤1∧valN o'+c' * 4294967296 ^ u.length=valN u+valN (v.take u.length):=
 natGive_l0 hv hs (fun _=>True) u.length 0 u 0 (by omega) rfl hu (fun _ _=>rfl) (by omega) (by simp[valN])
theorem and_low(a:Nat):a &&& 4294967295=a % 4294967296:=Nat.and_two_pow_sub_one_eq_mod a 32
theorem natTake_l0{u v:List Int}(hv:u32s v)(hs:u.length< 4294967000){q:Nat}(hq:q< 4294967296): ∀d i (o:List Int) (c b:Nat),i+d=u.length→o.length=u.length→u32s o→(∀j,i≤j→dgt o j=dgt u j)→c< 4294967296→b≤1→(0< i→dgt v (i - 1)=0→c=0)→valN (o.take i) +q * valN (v.take i)=valN (u.take i) + (c+b) * 4294967296 ^ i→
  ∃o' b',Ev (fun k=>nat_take.l0 k o v q c b u.length i) (b'==0,o')∧u32s o'∧o'.length=u.length∧b'≤1∧ ∃c',(0< u.length→dgt v (u.length - 1)=0→c'=0)∧valN o'+q * valN (v.take u.length)=valN u+ (c'+b') * 4294967296 ^ u.length:=by
 intro d
 induction d with
 |zero=>
  intro i o c b hi ho hu he hc hb hz hval;have e:i=u.length:=by omega
  subst e;refine⟨o,b,?_,hu,ho,hb,c,hz,?_⟩
  ·refine Ev.step (fun k=>by rw[nat_take.l0]) ?_;refine Ev.no (by omega) (Ev.is ?_)
   have:((b:Int)==0)=(b==0):=by rw[Bool.eq_iff_iff,beq_iff_eq,beq_iff_eq];omega
   rw[this]
  ·rw[val_take_len (by omega),List.take_length]at hval;exact hval
 |succ d ih=>
  intro i o c b hi ho hu he hc hb hz hval;have h1:=dgt_lt hu i;have h2:=dgt_lt hv i;have hp:q * dgt v i≤4294967295 * 4294967295:=Nat.mul_le_mul (by omega) (by omega);have eP:(q:Int) * ((dgt v i:Nat):Int)=((q * dgt v i:Nat):Int):=by simp
  have zero:dgt v i=0→q * dgt v i=0:=fun h=>by rw[h,Nat.mul_zero]
  generalize hP:q * dgt v i=p at *;have e0:IntKind.u64.wrap ((c:Int) +IntKind.u64.wrap ((q:Int) * ((dgt v i:Nat):Int)))=((c+p:Nat):Int):=by
   rw[eP,u64w (p:Int) (by omega),u64w _ (by omega)];omega
  have eL:Go.bits .and .u64 ((c+p:Nat):Int) 4294967295=(((c+p) % 4294967296:Nat):Int):=by
   rw[show(4294967295:Int)=((4294967295:Nat):Int)from rfl,bits_and_u64n _ _ (by omega) (by omega),and_low]
  have eD:IntKind.u64.wrap (IntKind.u64.wrap (IntKind.u64.wrap ((dgt o i:Nat):Int) - (((c+p) % 4294967296:Nat):Int)) - (b:Int)) % 4294967296=(((dgt o i+8589934592 - (c+p) % 4294967296 - b) % 4294967296:Nat):Int):=by
   rw[IntKind.wrap_u64,IntKind.wrap_u64,IntKind.wrap_u64];omega
  have eB:IntKind.u64.wrap (IntKind.u64.wrap (IntKind.u64.wrap ((dgt o i:Nat):Int) - (((c+p) % 4294967296:Nat):Int)) - (b:Int)) / 9223372036854775808=((if dgt o i< (c+p) % 4294967296+b then 1 else 0:Nat):Int):=by
   rw[IntKind.wrap_u64,IntKind.wrap_u64,IntKind.wrap_u64];split<;>omega
  have eC:((c+p:Nat):Int) / 4294967296=(((c+p) / 4294967296:Nat):Int):=by omega
  obtain⟨o',b',g1,g2⟩:=ih (i+1) (o.set i (((dgt o i+8589934592 - (c+p) % 4294967296 - b) % 4294967296:Nat):Int)) ((c+p) / 4294967296) (if dgt o i< (c+p) % 4294967296+b then 1 else 0) (by omega) (by rw[List.length_set];exact ho) (u32s_set hu i (by omega)) (fun j hj=>by rw[dgt_set (by omega),if_neg (by omega)];exact he j (by omega)) (by omega) (by split<;>omega) (fun _ h=>by rw[Nat.add_sub_cancel]at h;rw[zero h];omega) (by
   rw[val_take_set (by omega),val_take_succ,val_take_succ,Int.toNat_natCast,powB,←he i (Nat.le_refl _),Nat.mul_add];have k1:q * (4294967296 ^ i * dgt v i)=4294967296 ^ i * p:=by rw[←hP,Nat.mul_left_comm]
   rw[k1];have key:(dgt o i+8589934592 - (c+p) % 4294967296 - b) % 4294967296+p+c+b=dgt o i+ ((c+p) / 4294967296+ (if dgt o i< (c+p) % 4294967296+b then 1 else 0)) * 4294967296:=by split<;>omega
   generalize (dgt o i+8589934592 - (c+p) % 4294967296 - b) % 4294967296=r at *;generalize (c+p) / 4294967296+ (if dgt o i< (c+p) % 4294967296+b then 1 else 0)=t at *;generalize 4294967296 ^ i=B at *;have k2:B * (r+p+c+b)=B * (dgt o i+t * 4294967296):=by rw[key]
   rw[Nat.mul_add,Nat.mul_add,Nat.mul_add,Nat.mul_add]at k2;have k3:t * (B * 4294967296)=B * (t * 4294967296):=Nat.mul_left_comm _ _ _;rw[k3];rw[Nat.add_mul,Nat.mul_comm c B,Nat.mul_comm b B]at hval;generalize B * (t * 4294967296)=z1 at *;generalize B * r=z2 at *;generalize B * c=z3 at *;generalize B * dgt o i=z4 at *;generalize B * p=z5 at *;generalize B * b=z6 at *;omega)
  refine⟨o',b',?_,g2⟩;refine Ev.step (fun k=>by rw[nat_take.l0]) ?_;refine Ev.yes (by omega) (Ev.bind (Ev.con (natAt_f hv i)) (Ev.yes (by omega) (Ev.yes (by omega) ?_)));rw[rd_dgt hu,e0,eL,eD,eB,eC,wnx i (by omega),Int.toNat_natCast];exact g1
theorem natTake_f{u v:List Int}(hu:u32s u)(hv:u32s v)(hs:u.length< 4294967000){q:Nat}(hq:q< 4294967296)(hl:v.length< u.length):
  ∃o' b',Ev (fun k=>nat_take.f k u v q) (b'==0,o')∧u32s o'∧o'.length=u.length∧b'≤1∧valN o'+q * valN v=valN u+b' * 4294967296 ^ u.length:=by
 obtain⟨o',b',g1,g2,g3,g4,c',g5,g6⟩:=natTake_l0 hv hs hq u.length 0 u 0 0 (by omega) rfl hu (fun _ _=>rfl) (by omega) (by omega) (fun h=>absurd h (by omega)) (by simp[valN]);have hc:=g5 (by omega) (dgt_high (by omega));rw[hc,val_take_len (by omega),Nat.zero_add]at g6;exact⟨o',b',g1,g2,g3,g4,g6⟩
theorem natU{z:Nat}(h:z< 4294967296):0≤(z:Int)∧(z:Int)< 4294967296:=by omega
theorem shr_u32(d n:Nat)(hn:n< 32):shr .u32 (d:Int) (n:Int)=((d / 2 ^ n:Nat):Int):=by
 have e:min ((n:Int)).toNat (IntKind.bits .u32)=n:=by show min n 32=n;omega
 unfold shr;rw[e];simp
theorem shr_u64(d n:Nat)(hn:n< 32):shr .u64 (d:Int) (n:Int)=((d / 2 ^ n:Nat):Int):=by
 have e:min ((n:Int)).toNat (IntKind.bits .u64)=n:=by show min n 64=n;omega
 unfold shr;rw[e];simp
theorem natRight_l0{x:List Int}(hx:u32s x)(hs:x.length< 4294967000){n:Nat}(hn:n< 32): ∀d i (o:List Int),i+d=x.length→o.length=x.length→u32s o→(0< i→dgt o (i - 1)< 2 ^ (32 - n))→(∀j,i≤j→dgt o j=0)→valN o=valN (x.take i) / 2 ^ n→
  Ev (fun k=>nat_right.l0 k n o x x.length i) (digN (valN x / 2 ^ n)):=by
 intro d
 induction d with
 |zero=>
  intro i o hi ho hu hc hz hv;refine Ev.step (fun k=>by rw[nat_right.l0]) ?_;refine Ev.no (by omega) ?_;rw[val_take_len (by omega)]at hv;rw[←hv];exact Ev.bind (trim_f hu (by omega)) (Ev.now _)
 |succ d ih=>
  intro i o hi ho hu hc hz hv;have hd:=dgt_lt hx i;have hp0:0< 2 ^ n:=Nat.pow_pos (by decide);have hm0:0< 2 ^ (32 - n):=Nat.pow_pos (by decide);have hpm:2 ^ n * 2 ^ (32 - n)=4294967296:=by rw[←Nat.pow_add,show n+ (32 - n)=32 by omega]
  have hq:dgt x i / 2 ^ n< 2 ^ (32 - n):=by rw[Nat.div_lt_iff_lt_mul hp0,Nat.mul_comm,hpm];exact hd
  have hqd:dgt x i / 2 ^ n≤dgt x i:=Nat.div_le_self _ _;refine Ev.step (fun k=>by rw[nat_right.l0]) ?_;simp only[Option.bind_some];rw[rd_dgt hx,rd_dgt hu,hz i (Nat.le_refl _),shr_u32 _ _ hn,bits_or_u32_nat 0 _ (by omega) (by omega),Nat.zero_or,Int.toNat_natCast,wnx i (by omega)];have hu1:=u32s_set hu i (d:=((dgt x i / 2 ^ n:Nat):Int)) (natU (by omega));have hl1:(o.set i ((dgt x i / 2 ^ n:Nat):Int)).length=x.length:=by rw[List.length_set];exact ho
  have v1:=val_set (x:=o) (i:=i) (by omega) ((dgt x i / 2 ^ n:Nat):Int);rw[hz i (Nat.le_refl _),Int.toNat_natCast,Nat.mul_zero,Nat.add_zero]at v1;refine Ev.yes (by omega) (Ev.yes (by omega) (Ev.yes (by omega) (Ev.yes (by omega) (Ev.yes (by omega) ?_))));by_cases h0:0< i
  ·have hwl:=dgt_lt hx i;have e1:IntKind.u64.wrap (IntKind.u64.wrap ((dgt x i:Nat):Int) * 4294967296)=((dgt x i * 4294967296:Nat):Int):=by
    rw[u64w ((dgt x i:Nat):Int) (by omega),u64w _ (by omega)];omega
   have e2:(dgt x i * 4294967296) / 2 ^ n=2 ^ (32 - n) * dgt x i:=by
    have:dgt x i * 4294967296=2 ^ n * (2 ^ (32 - n) * dgt x i):=by rw[←Nat.mul_assoc,hpm,Nat.mul_comm]
    rw[this,Nat.mul_div_cancel_left _ hp0]
   have e3:((2 ^ (32 - n) * dgt x i:Nat):Int) % 4294967296=((2 ^ (32 - n) * (dgt x i % 2 ^ n):Nat):Int):=by
    have:2 ^ (32 - n) * dgt x i % 4294967296=2 ^ (32 - n) * (dgt x i % 2 ^ n):=by rw[←hpm,Nat.mul_comm (2 ^ n),Nat.mul_mod_mul_left]
    rw[←this];generalize 2 ^ (32 - n) * dgt x i=z;omega
   have hlo:=hc h0;have hlow:2 ^ (32 - n) * (dgt x i % 2 ^ n)< 4294967296:=by rw[←hpm,Nat.mul_comm];exact Nat.mul_lt_mul_of_pos_right (Nat.mod_lt _ hp0) hm0
   have dprev:dgt (o.set i ((dgt x i / 2 ^ n:Nat):Int)) (i - 1)=dgt o (i - 1):=by rw[dgt_set (by omega),if_neg (by omega)]
   have hor:dgt o (i - 1) |||2 ^ (32 - n) * (dgt x i % 2 ^ n)=2 ^ (32 - n) * (dgt x i % 2 ^ n) +dgt o (i - 1):=by rw[Nat.or_comm,or_add _ _ _ hlo]
   have hsum:2 ^ (32 - n) * (dgt x i % 2 ^ n) +dgt o (i - 1)< 4294967296:=by rw[←hor];exact Nat.or_lt_two_pow (n:=32) (dgt_lt hu _) hlow
   have v2:=val_set (x:=o.set i ((dgt x i / 2 ^ n:Nat):Int)) (i:=i - 1) (by omega) ((2 ^ (32 - n) * (dgt x i % 2 ^ n) +dgt o (i - 1):Nat):Int);rw[dprev,Int.toNat_natCast]at v2;refine Ev.yes (by omega) ?_;rw[wpx i h0 (by omega),rd_dgt hu1,dprev,e1,shr_u64 _ _ hn,e2,e3,bits_or_u32_nat _ _ (dgt_lt hu _) hlow,hor,Int.toNat_natCast];refine Ev.yes (by omega) (Ev.yes (by omega) ?_);refine ih (i+1) _ (by omega) (by rw[List.length_set];exact hl1) (u32s_set hu1 _ (by omega)) (fun _=>?_) (fun j hj=>?_) ?_
   ·rw[Nat.add_sub_cancel,dgt_set (by omega),if_neg (by omega),dgt_set (by omega),if_pos rfl,Int.toNat_natCast];exact hq
   ·rw[dgt_set (by omega),if_neg (by omega),dgt_set (by omega),if_neg (by omega)];exact hz j (by omega)
   ·rw[val_take_succ];obtain⟨k,rfl⟩: ∃k,i=k+1:=⟨i - 1,by omega⟩;rw[Nat.add_sub_cancel]at v2 hsum hor dprev hlo ⊢;have f1:4294967296 ^ (k+1) * dgt x (k+1)=2 ^ n * (4294967296 ^ k * (2 ^ (32 - n) * dgt x (k+1))):=by
     rw[powB,Nat.mul_assoc,←hpm,Nat.mul_left_comm (2 ^ n),Nat.mul_assoc]
    have f2:2 ^ (32 - n) * dgt x (k+1)=4294967296 * (dgt x (k+1) / 2 ^ n) +2 ^ (32 - n) * (dgt x (k+1) % 2 ^ n):=by
     conv=>lhs;rw[←Nat.div_add_mod (dgt x (k+1)) (2 ^ n)]
     rw[Nat.mul_add,←Nat.mul_assoc,Nat.mul_comm (2 ^ (32 - n)) (2 ^ n),hpm]
    rw[f1,Nat.add_mul_div_left _ _ hp0,←hv,f2,Nat.mul_add];rw[Nat.mul_add]at v2;rw[powB,Nat.mul_assoc]at v1;omega
  ·have e0:i=0:=by omega
   subst e0;refine Ev.no (by omega) ?_;refine ih 1 _ (by omega) hl1 hu1 (fun _=>?_) (fun j hj=>?_) ?_
   ·rw[Nat.sub_self,dgt_set (by omega),if_pos rfl,Int.toNat_natCast];exact hq
   ·rw[dgt_set (by omega),if_neg (by omega)];exact hz j (by omega)
   ·rw[v1,hv,val_take_succ];simp[valN]
theorem natRight_f{x:List Int}(hx:u32s x)(hs:x.length< 4294967000){n:Nat}(hn:n< 32):Ev (fun k=>nat_right.f k x n) (digN (valN x / 2 ^ n)):=by
 unfold nat_right.f;refine Ev.yes (by omega) (Ev.yes (by omega) ?_);rw[Int.toNat_natCast];refine natRight_l0 hx hs hn x.length 0 _ (by omega) List.length_replicate (u32s_zeros _) (fun h=>absurd h (by omega)) (fun j hj=>?_) ?_
 ·unfold dgt;simp[List.getD_eq_getElem?_getD,List.getElem?_replicate];split<;>simp
 ·rw[val_zeros];simp[valN]
section
variable {U V P v1 v2 V' two u2 U':Nat}
theorem kn_two(hV:V=(v1 * 4294967296+v2) * P+V')(hV':V'< P)(hv2:v2< 4294967296)(hU:U=(two * 4294967296+u2) * P+U')(hlt:U< V * 4294967296):two≤v1 * 4294967296+v2:=by
 refine Nat.le_of_not_lt fun h=>?_
 have h1:(v1 * 4294967296+v2+1) * 4294967296 * P≤(two * 4294967296+u2) * P:=Nat.mul_le_mul_right _ (by omega);have h2:V * 4294967296≤(v1 * 4294967296+v2+1) * 4294967296 * P:=by
  rw[Nat.mul_assoc,Nat.mul_comm 4294967296 P,←Nat.mul_assoc]
  apply Nat.mul_le_mul_right
  rw[hV,Nat.add_mul (v1 * 4294967296+v2) 1 P,Nat.one_mul];omega
 omega
theorem kn_first(hV:V=(v1 * 4294967296+v2) * P+V')(hv1:0< v1)(hP:0< P)(hu2:u2< 4294967296)(hU:U=(two * 4294967296+u2) * P+U')(hU':U'< P):U / V≤two / v1:=by
 rw[Nat.le_div_iff_mul_le hv1];refine Nat.le_of_not_lt fun h=>?_
 have h1:U / V * V≤U:=Nat.div_mul_le_self _ _;have h2:v1 * 4294967296 * P≤V:=by rw[hV,Nat.add_mul];omega
 have h3:U / V * (v1 * 4294967296 * P)≤U / V * V:=Nat.mul_le_mul_left _ h2;have h4:(two+1) * (4294967296 * P)≤U / V * v1 * (4294967296 * P):=Nat.mul_le_mul_right _ h;have h5:U / V * v1 * (4294967296 * P)=U / V * (v1 * 4294967296 * P):=by rw[Nat.mul_assoc,Nat.mul_assoc v1]
 have h6:U< (two+1) * (4294967296 * P):=by
  have:(two * 4294967296+u2+1) * P≤(two+1) * 4294967296 * P:=Nat.mul_le_mul_right _ (by omega)
  rw[Nat.add_mul _ 1 P,Nat.one_mul,Nat.mul_assoc (two+1)]at this;omega
 omega
theorem kn_down(hV:V=(v1 * 4294967296+v2) * P+V')(hP:0< P)(hU:U=(two * 4294967296+u2) * P+U')(hU':U'< P)(hV0:0< V){q r:Nat}(hq:two=q * v1+r)(h:r * 4294967296+u2< q * v2):U / V< q:=by
 rw[Nat.div_lt_iff_lt_mul hV0];have h1:(two * 4294967296+u2+1) * P≤q * (v1 * 4294967296+v2) * P:=by
  apply Nat.mul_le_mul_right
  rw[hq,Nat.add_mul,Nat.mul_add,Nat.mul_assoc];omega
 have h2:q * V=q * (v1 * 4294967296+v2) * P+q * V':=by rw[hV,Nat.mul_add q _ V',Nat.mul_assoc q]
 rw[Nat.add_mul _ 1 P,Nat.one_mul]at h1;omega
theorem kn_end(hV:V=(v1 * 4294967296+v2) * P+V')(hV':V'< P)(hv1:0< v1)(hU:U=(two * 4294967296+u2) * P+U'){q r:Nat}(hq:two=q * v1+r)(hqB:q< 4294967296)(h:q * v2≤r * 4294967296+u2):q * V< U+V:=by
 have h1:q * (v1 * 4294967296+v2) * P≤(two * 4294967296+u2) * P:=by
  apply Nat.mul_le_mul_right
  rw[hq,Nat.add_mul,Nat.mul_add,Nat.mul_assoc];omega
 have h2:q * V=q * (v1 * 4294967296+v2) * P+q * V':=by rw[hV,Nat.mul_add q _ V',Nat.mul_assoc q]
 have h3:q * V'≤4294967295 * V':=Nat.mul_le_mul_right _ (by omega);have h4:4294967296 * P≤v1 * 4294967296 * P:=Nat.mul_le_mul_right _ (by omega);have h5:v1 * 4294967296 * P≤V:=by rw[hV,Nat.add_mul];omega
 omega
theorem kn_break(htwo:two≤v1 * 4294967296+v2)(hv2:v2< 4294967296){q r:Nat}(hq:two=q * v1+r)(hr:4294967296≤r):q< 4294967296∧q * v2≤r * 4294967296+u2:=by
 have hqB:q< 4294967296:=by
  refine Nat.lt_of_not_le fun h=>?_
  have:=Nat.mul_le_mul_right v1 h
  omega
 refine⟨hqB,?_⟩;have h1:q * v2≤4294967295 * 4294967295:=Nat.mul_le_mul (by omega) (by omega);omega
theorem kn_guess(hV0:0< V){q:Nat}(hlo:U / V≤q)(hhi:q * V< U+V):(q * V≤U→q=U / V∧U - q * V=U % V)∧(¬q * V≤U→0< q∧q - 1=U / V∧U+V - q * V=U % V):=by
 have hdm:=Nat.div_add_mod U V;have hm:=Nat.mod_lt U hV0;have hc:V * (U / V)=U / V * V:=Nat.mul_comm _ _;generalize U / V=Q at *;generalize U % V=R at *;constructor
 ·intro h
  have:q=Q:=by
   refine Nat.le_antisymm (Nat.le_of_not_lt fun hl=>?_) hlo
   have:=Nat.mul_le_mul_right V (show Q+1≤q from hl)
   rw[Nat.add_mul,Nat.one_mul]at this;omega
  subst this;exact⟨rfl,by omega⟩
 ·intro h;have hq:q=Q+1:=by
   refine Nat.le_antisymm (Nat.le_of_not_lt fun hl=>?_) (Nat.lt_of_le_of_ne hlo fun e=>h (by rw[←e];omega))
   have:=Nat.mul_le_mul_right V (show Q+2≤q from hl)
   rw[Nat.add_mul]at this;omega
  subst hq;rw[Nat.add_mul,Nat.one_mul];exact⟨by omega,by omega,by omega⟩
end
theorem dgt_drop(x:List Int)(i j:Nat):dgt (x.drop i) j=dgt x (i+j):=by unfold dgt;simp[List.getD_eq_getElem?_getD,List.getElem?_drop]
theorem dgt_take(x:List Int){i j:Nat}(h:j< i):dgt (x.take i) j=dgt x j:=by unfold dgt;simp[List.getD_eq_getElem?_getD,List.getElem?_take,h]
theorem val_top(x:List Int){n:Nat}(h:x.length=n+1):valN x=valN (x.take n) +4294967296 ^ n * dgt x n:=by
 have:=val_take_succ x n
 rw[val_take_len (by omega)]at this;exact this
theorem val_two(x:List Int){n:Nat}(h:x.length=n+2):valN x=(dgt x (n+1) * 4294967296+dgt x n) * 4294967296 ^ n+valN (x.take n):=by
 have h1:=val_top x (n:=n+1) h;have h2:=val_take_succ x n;have e: ∀P d0 d1:Nat,(d1 * 4294967296+d0) * P=P * d0+P * 4294967296 * d1:=fun P d0 d1=>by rw[Nat.add_mul,Nat.mul_comm (d1 * 4294967296) P,Nat.mul_comm d1 4294967296,←Nat.mul_assoc,Nat.mul_comm d0 P,Nat.add_comm]
 rw[h1,h2,powB,e];omega
theorem val_three(x:List Int){n:Nat}(h:x.length=n+3):valN x=((dgt x (n+2) * 4294967296+dgt x (n+1)) * 4294967296+dgt x n) * 4294967296 ^ n+valN (x.take n):=by
 have h1:=val_two x (n:=n+1) h;rw[show n+1+1=n+2 from rfl]at h1;have h2:=val_take_succ x n;have e: ∀P d0 two:Nat,(two * 4294967296+d0) * P=two * (P * 4294967296) +P * d0:=fun P d0 two=>by rw[Nat.add_mul,Nat.mul_assoc two 4294967296 P,Nat.mul_comm 4294967296 P,Nat.mul_comm d0 P]
 rw[h1,h2,powB,e (4294967296 ^ n) (dgt x n)];omega
def winN(us:List Int)(i m:Nat):List Int:=(us.drop i).take (m+1)
theorem win_len{us:List Int}{i m:Nat}(h:i+m< us.length):(winN us i m).length=m+1:=by unfold winN;rw[List.length_take,List.length_drop];omega
theorem win_u32{us:List Int}(h:u32s us)(i m:Nat):u32s (winN us i m):=u32s_take (u32s_drop h i) _
theorem win_dgt(us:List Int)(i m:Nat){j:Nat}(h:j≤m):dgt (winN us i m) j=dgt us (i+j):=by unfold winN;rw[dgt_take _ (by omega),dgt_drop]
def winPut(us W:List Int)(i m:Nat):List Int:=us.take i++ (W++us.drop (i+m+1))
theorem winPut_len{us W:List Int}{i m:Nat}(h:i+m< us.length)(hW:W.length=m+1):(winPut us W i m).length=us.length:=by
 unfold winPut;rw[List.length_append,List.length_append,List.length_take,List.length_drop,hW];omega
theorem winPut_u32{us W:List Int}{i m:Nat}(h:u32s us)(hW:u32s W):u32s (winPut us W i m):=u32s_append.2 ⟨u32s_take h _,u32s_append.2 ⟨hW,u32s_drop h _⟩⟩
theorem winPut_self{us:List Int}{i m:Nat} :winPut us (winN us i m) i m=us:=by
 unfold winPut winN;have e:us.drop (i+m+1)=(us.drop i).drop (m+1):=by rw[List.drop_drop,Nat.add_assoc]
 rw[e,List.take_append_drop,List.take_append_drop]
theorem val_winPut{us W:List Int}{i m:Nat}(h:i+m< us.length)(hW:W.length=m+1):valN (winPut us W i m)=valN (us.take i) +4294967296 ^ i * (valN W+4294967296 ^ (m+1) * valN (us.drop (i+m+1))):=by
 unfold winPut;rw[val_append,val_append,List.length_take,Nat.min_eq_left (by omega),hW]
section
variable {us vs:List Int} {i m:Nat}
theorem win_all(h:i+m< us.length)(hv:valN vs< 4294967296 ^ m)(hlt:valN us< valN vs * 4294967296 ^ (i+1)):valN (us.drop (i+m+1))=0∧valN us=valN (us.take i) +4294967296 ^ i * valN (winN us i m):=by
 have e:=val_winPut (W:=winN us i m) h (win_len h);rw[winPut_self]at e;have hz:valN (us.drop (i+m+1))=0:=by
  refine Nat.eq_zero_of_not_pos fun hp=>?_
  have h1:4294967296 ^ i * (4294967296 ^ (m+1) * 1)≤4294967296 ^ i * (4294967296 ^ (m+1) * valN (us.drop (i+m+1))):=Nat.mul_le_mul_left _ (Nat.mul_le_mul_left _ hp);have h2:valN vs * 4294967296 ^ (i+1)≤4294967296 ^ m * 4294967296 ^ (i+1):=Nat.mul_le_mul_right _ (Nat.le_of_lt hv);have h3:4294967296 ^ m * 4294967296 ^ (i+1)=4294967296 ^ i * (4294967296 ^ (m+1) * 1):=by rw[Nat.mul_one,←Nat.pow_add,←Nat.pow_add];congr 1;omega
  rw[Nat.mul_add]at e;omega
 rw[hz,Nat.mul_zero,Nat.add_zero]at e;exact⟨hz,e⟩
theorem win_lt(h:i+m< us.length)(hv:valN vs< 4294967296 ^ m)(hlt:valN us< valN vs * 4294967296 ^ (i+1)):valN (winN us i m)< valN vs * 4294967296:=by
 have e:=(win_all h hv hlt).2;refine Nat.lt_of_not_le fun hc=>?_
 have h1:4294967296 ^ i * (valN vs * 4294967296)≤4294967296 ^ i * valN (winN us i m):=Nat.mul_le_mul_left _ hc;have h2:4294967296 ^ i * (valN vs * 4294967296)=valN vs * 4294967296 ^ (i+1):=by rw[powB,Nat.mul_left_comm]
 omega
theorem win_next(hu:u32s us)(h:i+m< us.length)(hv:valN vs< 4294967296 ^ m)(hv0:0< valN vs)(hlt:valN us< valN vs * 4294967296 ^ (i+1)){W':List Int}(hW:W'.length=m+1)(hr:valN W'=valN (winN us i m) % valN vs):
  valN (winPut us W' i m)< valN vs * 4294967296 ^ i∧valN us=valN vs * (4294967296 ^ i * (valN (winN us i m) / valN vs)) +valN (winPut us W' i m):=by
 obtain⟨hz,e⟩:=win_all h hv hlt;have e':=val_winPut (W:=W') h hW;rw[hz,Nat.mul_zero,Nat.add_zero,hr]at e';have hl:valN (us.take i)< 4294967296 ^ i:=by
  have:=val_lt (u32s_take hu i)
  rwa [List.length_take,Nat.min_eq_left (by omega)]at this
 have hm:=Nat.mod_lt (valN (winN us i m)) hv0;have hdm:=Nat.div_add_mod (valN (winN us i m)) (valN vs);rw[e,e'];generalize valN (winN us i m) % valN vs=r at *;generalize valN (winN us i m) / valN vs=q at *;constructor
 ·have h1:4294967296 ^ i * (r+1)≤4294967296 ^ i * valN vs:=Nat.mul_le_mul_left _ hm;rw[Nat.mul_add,Nat.mul_one,Nat.mul_comm _ (valN vs)]at h1;omega
 ·rw[←hdm,Nat.mul_add,Nat.mul_left_comm (valN vs)];omega
end
theorem shift_div{X Y Q R k:Nat}(hk:0< k)(h:k * X=k * Y * Q+R)(hR:R< k * Y):Q=X / Y∧R / k=X % Y:=by
 have hY:0< Y:=Nat.pos_of_ne_zero fun e=>by rw[e,Nat.mul_zero]at hR;omega
 have h1:Q=X / Y:=by
  have e1:k * X / (k * Y)=Q:=by
   rw[h,Nat.mul_add_div (Nat.mul_pos hk hY),Nat.div_eq_of_lt hR,Nat.add_zero]
  rw[←e1,Nat.mul_div_mul_left _ _ hk]
 refine⟨h1,?_⟩;have h2:=Nat.div_add_mod X Y;have e2:R=k * (X % Y):=by
  have e3:k * X=k * (Y * (X / Y)) +k * (X % Y):=by rw[←Nat.mul_add,h2]
  rw[←h1,←Nat.mul_assoc]at e3;rw[e3]at h;have h4:k * Y * Q+k * (X % Y)=k * Y * Q+R:=h;omega
 rw[e2,Nat.mul_div_cancel_left _ hk]
theorem bitLen_bounds: ∀ (f x:Nat),x< 2 ^ f→f≤64→x≠0→1≤Lib.bitLen x∧2 ^ (Lib.bitLen x - 1)≤x∧x< 2 ^ Lib.bitLen x
 |0,x,h,_,h0=>by simp at h;omega
 |f+1,x,h,hf,h0=>by
  have h64:x< 2 ^ 64:=Nat.lt_of_lt_of_le h (Nat.pow_le_pow_right (by decide) hf)
  rw[Lib.bitLen_half x h0 h64]
  by_cases h1:x / 2=0
  ·have:x=1:=by omega
   subst this
   rw[h1,show Lib.bitLen 0=0 from rfl]
   decide
  ·obtain⟨i1,i2,i3⟩:=bitLen_bounds f (x / 2) (by rw[Nat.pow_succ]at h;omega) (by omega) h1
   obtain⟨j,hj⟩: ∃j,Lib.bitLen (x / 2)=j+1:=⟨Lib.bitLen (x / 2) - 1,by omega⟩
   rw[hj]at i2 i3 ⊢
   rw[Nat.add_sub_cancel]at i2
   rw[show 1+ (j+1) - 1=j+1 by omega,show 1+ (j+1)=j+1+1 by omega,Nat.pow_succ 2 (j+1)]
   rw[Nat.pow_succ]at i3 ⊢
   omega
theorem norm_facts{y:List Int}(hy:canon y){j:Nat}(hl:y.length=j+1):0< dgt y j∧Lib.bitLen (dgt y j)≤32∧1≤Lib.bitLen (dgt y j)∧
  (digN (2 ^ (32 - Lib.bitLen (dgt y j)) * valN y)).length=j+1∧2147483648≤dgt (digN (2 ^ (32 - Lib.bitLen (dgt y j)) * valN y)) j:=by
 have hd:=dgt_lt hy.1 j;have h1:=val_top y hl;have h2:valN (y.take j)< 4294967296 ^ j:=val_take_lt hy.1 j;have h3:=val_ge hy hl;have hp:0< dgt y j:=by
  refine Nat.pos_of_ne_zero fun e=>?_
  rw[e,Nat.mul_zero]at h1;omega
 obtain⟨b1,b2,b3⟩:=bitLen_bounds 32 (dgt y j) hd (by decide) (by omega);generalize hbe:Lib.bitLen (dgt y j)=b at *;have hb32:b≤32:=by
  refine Nat.le_of_not_lt fun h=>?_
  have:2 ^ 32≤2 ^ (b - 1):=Nat.pow_le_pow_right (by decide) (by omega)
  omega
 obtain⟨c,rfl⟩: ∃c,b=c+1:=⟨b - 1,by omega⟩;rw[Nat.add_sub_cancel]at b2;have hk:2 ^ (32 - (c+1)) * 2 ^ c=2147483648:=by rw[←Nat.pow_add,show 32 - (c+1) +c=31 by omega]
 have hk2:2 ^ (32 - (c+1)) * 2 ^ (c+1)=4294967296:=by rw[←Nat.pow_add,show 32 - (c+1) + (c+1)=32 by omega]
 have k1:2147483648≤2 ^ (32 - (c+1)) * dgt y j:=by rw[←hk];exact Nat.mul_le_mul_left _ b2
 have k2:2 ^ (32 - (c+1)) * (dgt y j+1)≤4294967296:=by rw[←hk2];exact Nat.mul_le_mul_left _ b3
 have h0:0< 2 ^ (32 - (c+1)):=Nat.pow_pos (by decide);generalize 2 ^ (32 - (c+1))=K at *;have lo:4294967296 ^ j * 2147483648≤K * valN y:=by
  refine Nat.le_trans (Nat.mul_le_mul_left _ k1) ?_;rw[h1,Nat.mul_add,Nat.mul_left_comm];omega
 have hi:K * valN y< 4294967296 ^ (j+1):=by
  have e1:valN y< 4294967296 ^ j * (dgt y j+1):=by rw[h1,Nat.mul_add];omega
  have e2:K * valN y< K * (4294967296 ^ j * (dgt y j+1)):=Nat.mul_lt_mul_of_pos_left e1 h0;have e3:K * (4294967296 ^ j * (dgt y j+1))≤4294967296 ^ j * 4294967296:=by rw[Nat.mul_left_comm];exact Nat.mul_le_mul_left _ k2
  rw[powB];omega
 have hlen:(digN (K * valN y)).length=j+1:=by
  refine Nat.le_antisymm (len_digN_le hi) (Nat.le_of_not_lt fun h=>?_);have e1:=val_lt (u32s_digN (K * valN y));rw[val_digN]at e1;have e2:4294967296 ^ (digN (K * valN y)).length≤4294967296 ^ j:=Nat.pow_le_pow_right (by decide) (by omega);omega
 refine⟨hp,hb32,b1,hlen,Nat.le_of_not_lt fun h=>?_⟩;have e1:=val_top _ hlen;rw[val_digN]at e1;have e2:=val_take_lt (u32s_digN (K * valN y)) j;have e3:4294967296 ^ j * (dgt (digN (K * valN y)) j+1)≤4294967296 ^ j * 2147483648:=Nat.mul_le_mul_left _ h;rw[Nat.mul_add]at e3;omega
def canonB(x:List Int):Bool:=x.all (fun d=>decide (0≤d) && decide (d< 4294967296)) && decide (x.getLast? ≠some 0)
theorem canonB_iff{x:List Int} :canonB x=true↔canon x:=by
 unfold canonB canon u32s;simp only[Bool.and_eq_true,List.all_eq_true,decide_eq_true_eq];refine⟨fun h=>⟨h.1,fun hx e=>h.2 (by rw[List.getLast?_eq_some_getLast hx,e])⟩,fun h=>⟨h.1,fun e=>?_⟩⟩;by_cases hx:x= []
 ·subst hx;simp at e
 ·rw[List.getLast?_eq_some_getLast hx]at e;exact h.2 hx (by injection e)
def nat_div.f(l0 l1:List Int):Option (List Int×List Int):=
 if(canonB l0 && canonB l1 && decide (l1.length≠0) && decide (l0.length< 4294960000))=true then some (digN (valN l0 / valN l1),digN (valN l0 % valN l1))else none
structure DivAt (X:Nat) (vs:List Int) (mu mo i:Nat) (us os:List Int):Prop where
 ul:us.length=mu
 uu:u32s us
 ult:valN us< valN vs * 4294967296 ^ i
 ol:os.length=mo
 ou:u32s os
 oz: ∀j,j< i→dgt os j=0
 eq:X=valN vs * valN os+valN us
theorem div_start{x vs:List Int}(hx:u32s x){n j:Nat}(hn:n< 32)(hl:vs.length=j+2)(ht:2147483648≤dgt vs (j+1))(hj:j+1≤x.length):2 ^ n * valN x< valN vs * 4294967296 ^ (x.length - (j+1)):=by
 have h1:2 ^ n≤2147483648:=by rw[show(2147483648:Nat)=2 ^ 31 from rfl];exact Nat.pow_le_pow_right (by decide) (by omega)
 have h2:=val_lt hx;have h3:=val_top vs (n:=j+1) hl;have h4:4294967296 ^ (j+1) * 2147483648≤valN vs:=by
  rw[h3];have:=Nat.mul_le_mul_left (4294967296 ^ (j+1)) ht;omega
 have h5:4294967296 ^ (j+1) * 2147483648 * 4294967296 ^ (x.length - (j+1))≤valN vs * 4294967296 ^ (x.length - (j+1)):=Nat.mul_le_mul_right _ h4;have h6:4294967296 ^ (j+1) * 2147483648 * 4294967296 ^ (x.length - (j+1))=2147483648 * 4294967296 ^ x.length:=by
  rw[Nat.mul_comm (4294967296 ^ (j+1)),Nat.mul_assoc,←Nat.pow_add,show j+1+ (x.length - (j+1))=x.length by omega]
 have h7:2 ^ n * valN x≤2147483648 * valN x:=Nat.mul_le_mul_right _ h1;have h8:2147483648 * valN x< 2147483648 * 4294967296 ^ x.length:=Nat.mul_lt_mul_of_pos_left h2 (by decide);omega
theorem rowU_at{w:World}{base e g n cap:Nat}{xs:List Int}(h:w.ownsRow base e 1 (.slice (some ⟨g,0,none⟩) n cap) n (encs (Value.int .u32) xs))(j:Int)(h0:0≤j)(h1:j< (n:Int)):w.cell? ⟨g,j.toNat,none⟩=some (.int .u32 (rd xs j))∧w.frozen? ⟨g,j.toNat,none⟩=false:=own_at_of (d:=(0:Int)) h j h0 h1
theorem div_step{X:Nat}{us vs os W:List Int}{mu mo i m:Nat}(hv:u32s vs)(hm:vs.length=m)(hv0:0< valN vs)(h:DivAt X vs mu mo (i+1) us os)(hi:i+m< mu)(hio:i< mo)(hWu:u32s W)(hWl:W.length=m+1)(hW:valN W=valN (winN us i m) % valN vs):
  DivAt X vs mu mo i (winPut us W i m) (os.set i ((valN (winN us i m) / valN vs:Nat):Int)):=by
 obtain⟨h1,h2,h3,h4,h5,h6,h7⟩:=h;have hvl:valN vs< 4294967296 ^ m:=by rw[←hm];exact val_lt hv
 obtain⟨n1,n2⟩:=win_next h2 (by omega) hvl hv0 h3 hWl hW;have hq:valN (winN us i m) / valN vs< 4294967296:=(Nat.div_lt_iff_lt_mul hv0).2 (by have:=win_lt (by omega) hvl h3;rw[Nat.mul_comm];exact this);refine⟨by rw[winPut_len (by omega) hWl];exact h1,winPut_u32 h2 hWu,n1,by rw[List.length_set];exact h4,u32s_set h5 _ (natU hq),fun j hj=>by rw[dgt_set (by omega),if_neg (by omega)];exact h6 j (by omega),?_⟩;have e:=val_set (x:=os) (i:=i) (by omega) ((valN (winN us i m) / valN vs:Nat):Int);rw[h6 i (by omega),Nat.mul_zero,Nat.add_zero,Int.toNat_natCast]at e;rw[h7,e,Nat.mul_add];omega
theorem take_good{W vs:List Int}(hW:u32s W)(hv:u32s vs)(hs:W.length< 4294967000)(hl:vs.length< W.length)(hv0:0< valN vs){q:Nat}(hq:q< 4294967296)(hlo:valN W / valN vs≤q)(hhi:q * valN vs< valN W+valN vs):
  (∃o',Ev (fun k=>nat_take.f k W vs q) (true,o')∧u32s o'∧o'.length=W.length∧valN o'=valN W % valN vs∧q=valN W / valN vs)∨
  (∃o' o2,Ev (fun k=>nat_take.f k W vs q) (false,o')∧u32s o'∧o'.length=W.length∧Ev (fun k=>nat_give.f k o' vs) o2∧u32s o2∧o2.length=W.length∧valN o2=valN W % valN vs∧0< q∧q - 1=valN W / valN vs):=by
 obtain⟨o,b,t1,t2,t3,t4,t5⟩:=natTake_f hW hv hs hq hl;have b1:=val_lt t2;have b2:=val_lt hW;have hVB:valN vs< 4294967296 ^ W.length:=Nat.lt_of_lt_of_le (val_lt hv) (Nat.pow_le_pow_right (by decide) (Nat.le_of_lt hl));rw[t3]at b1;obtain⟨g1,g2⟩:=kn_guess hv0 hlo hhi;have hmod:=Nat.mod_lt (valN W) hv0;by_cases hc:q * valN vs≤valN W
 ·obtain⟨e1,e2⟩:=g1 hc;have hb:b=0:=by
   refine Nat.eq_zero_of_not_pos fun hp=>?_
   have:1 * 4294967296 ^ W.length≤b * 4294967296 ^ W.length:=Nat.mul_le_mul_right _ hp
   omega
  subst hb;exact .inl ⟨o,t1,t2,t3,by omega,e1⟩
 ·obtain⟨e0,e1,e2⟩:=g2 hc;have hb:b=1:=by
   refine Nat.le_antisymm t4 (Nat.pos_of_ne_zero fun h=>?_);rw[h,Nat.zero_mul]at t5;omega
  subst hb;obtain⟨o2,s1,s2,s3,c,s4,s5⟩:=natGive_f t2 hv (by omega);rw[val_take_len (by omega),t3]at s5;have b3:=val_lt s2;rw[s3,t3]at b3;have hc1:c=1:=by
   refine Nat.le_antisymm s4 (Nat.pos_of_ne_zero fun h=>?_);rw[h,Nat.zero_mul]at s5;omega
  subst hc1;exact .inr ⟨o,o2,t1,t2,t3,s1,s2,s3.trans t3,by omega,e0,e1⟩
theorem guess_facts{X:Nat}{us vs os:List Int}{mu mo i j:Nat}(hv:u32s vs)(hm:vs.length=j+2)(ht:2147483648≤dgt vs (j+1))(h:DivAt X vs mu mo (i+1) us os)(hi:i+ (j+2)< mu):
  0< valN vs∧valN (winN us i (j+2)) / valN vs≤(dgt us (i+ (j+2)) * 4294967296+dgt us (i+ (j+1))) / dgt vs (j+1)∧
  (∀q r,dgt us (i+ (j+2)) * 4294967296+dgt us (i+ (j+1))=q * dgt vs (j+1) +r→4294967296≤q→valN (winN us i (j+2)) / valN vs< q)∧
  (∀q r,dgt us (i+ (j+2)) * 4294967296+dgt us (i+ (j+1))=q * dgt vs (j+1) +r→r * 4294967296+dgt us (i+j)< q * dgt vs j→valN (winN us i (j+2)) / valN vs< q)∧
  (∀q r,dgt us (i+ (j+2)) * 4294967296+dgt us (i+ (j+1))=q * dgt vs (j+1) +r→4294967296≤r→q< 4294967296∧q * valN vs< valN (winN us i (j+2)) +valN vs)∧
  (∀q r,dgt us (i+ (j+2)) * 4294967296+dgt us (i+ (j+1))=q * dgt vs (j+1) +r→q< 4294967296→q * dgt vs j≤r * 4294967296+dgt us (i+j)→q * valN vs< valN (winN us i (j+2)) +valN vs):=by
 obtain⟨h1,h2,h3,h4,h5,h6,h7⟩:=h;have hl:i+ (j+2)< us.length:=by omega
 have hvl:valN vs< 4294967296 ^ (j+2):=by rw[←hm];exact val_lt hv
 have hlt:=win_lt hl hvl h3;have hU:=val_three (winN us i (j+2)) (n:=j) (win_len hl);rw[win_dgt us i (j+2) (by omega),win_dgt us i (j+2) (by omega),win_dgt us i (j+2) (by omega)]at hU;have hU':=val_take_lt (win_u32 h2 i (j+2)) j;have hV:=val_two vs hm;have hV':=val_take_lt hv j;have hP:0< 4294967296 ^ j:=Nat.pow_pos (by decide);have hv2:=dgt_lt hv j;have hu2:=dgt_lt h2 (i+j);have hv0:0< valN vs:=by
  rw[hV]
  have:0< (dgt vs (j+1) * 4294967296+dgt vs j) * 4294967296 ^ j:=Nat.mul_pos (by omega) hP
  omega
 have htwo:=kn_two hV hV' hv2 hU hlt;refine⟨hv0,kn_first hV (by omega) hP hu2 hU hU',fun q r hq h=>?_,fun q r hq h=>kn_down hV hP hU hU' hv0 hq h,fun q r hq h=>?_,fun q r hq hb h=>kn_end hV hV' (by omega) hU hq hb h⟩
 ·have:valN (winN us i (j+2)) / valN vs< 4294967296:=(Nat.div_lt_iff_lt_mul hv0).2 (by rw[Nat.mul_comm];exact hlt)
  omega
 ·obtain⟨k1,k2⟩:=kn_break (u2:=dgt us (i+j)) htwo hv2 hq h;exact⟨k1,kn_end hV hV' (by omega) hU hq k1 k2⟩
theorem or_u64{a b:Nat}(ha:a< 4294967296)(hb:b< 4294967296):Go.bits .or .u64 (IntKind.u64.wrap ((a:Int) * 4294967296)) (b:Int)=((a * 4294967296+b:Nat):Int):=by
 have e:IntKind.u64.wrap ((a:Int) * 4294967296)=((a * 4294967296:Nat):Int):=by rw[u64w _ (by omega)];omega
 rw[e,bits_or_u64n _ _ (by omega) (by omega)]
 have:=or_add a b 32 (by omega)
 rw[Nat.mul_comm]at this;rw[show(4294967296:Nat)=2 ^ 32 from rfl,this]
theorem div_idx{i j lu lo lv n:Nat}{iz:Int}(h1:iz=((i+1:Nat):Int) - 1)(h2:lv=j+2)(h3:i+1≤lo)(h4:lo=n - (j+1))(h5:lu=n+1)(h6:n< 4294960000):
  ∃p0 p1 p2 p3 s1 s2 iy:Int,(wrap64 (iz+ (lv:Int))=p0∧wrap64 (p0 - 1)=p1∧wrap64 (p0 - 2)=p2∧wrap64 (p0+1)=p3∧wrap64 ((lv:Int) - 1)=s1∧wrap64 ((lv:Int) - 2)=s2∧wrap64 (iz - 1)=iy)∧
  (0≤p0∧p0< (lu:Int))∧(0≤p1∧p1< (lu:Int))∧(0≤p2∧p2< (lu:Int))∧(0≤s1∧s1< (lv:Int))∧(0≤s2∧s2< (lv:Int))∧(0≤iz∧iz< (lo:Int))∧(iz≤p3∧p3≤(lu:Int))∧
  (p0=((i+ (j+2):Nat):Int)∧p1=((i+ (j+1):Nat):Int)∧p2=((i+j:Nat):Int)∧s1=((j+1:Nat):Int)∧s2=((j:Nat):Int))∧
  iz.toNat=i∧p3.toNat - iz.toNat=j+3∧i< lo∧i+ (j+2)< lu∧i+ (j+3)≤lu∧lu< 4294967000∧j+2+1< 4294967000∧iy=(i:Int) - 1:=by
 have e0:wrap64 (iz+ (lv:Int))=((i+ (j+2):Nat):Int):=by rw[w64 _ (by omega)];omega
 refine⟨((i+ (j+2):Nat):Int),((i+ (j+1):Nat):Int),((i+j:Nat):Int),((i+ (j+3):Nat):Int),((j+1:Nat):Int),((j:Nat):Int),(i:Int) - 1,⟨e0,?_,?_,?_,?_,?_,?_⟩,?_⟩
 ·rw[w64 _ (by omega)];omega
 ·rw[w64 _ (by omega)];omega
 ·rw[w64 _ (by omega)];omega
 ·rw[w64 _ (by omega)];omega
 ·rw[w64 _ (by omega)];omega
 ·rw[w64 _ (by omega)];omega
 ·exact⟨⟨by omega,by omega⟩,⟨by omega,by omega⟩,⟨by omega,by omega⟩,⟨by omega,by omega⟩,⟨by omega,by omega⟩,⟨by omega,by omega⟩,⟨by omega,by omega⟩,⟨rfl,rfl,rfl,rfl,rfl⟩,by omega,by omega,by omega,by omega,by omega,by omega,by omega,rfl⟩
theorem guess_start{two v1 a b:Nat}(h:two=a * 4294967296+b)(ha:a< 4294967296)(hb:b< 4294967296)(hv:0< v1)(hv2:v1< 4294967296):
  IntKind.u64.wrap (((two:Nat):Int).tdiv ((v1:Nat):Int))=((two / v1:Nat):Int)∧((two:Nat):Int).tmod ((v1:Nat):Int)=((two % v1:Nat):Int)∧two / v1< 18446744073709551616∧two % v1< 4294967296∧two=two / v1 * v1+two % v1:=by
 have hle:two / v1≤two:=Nat.div_le_self _ _;have hm:=Nat.mod_lt two hv;have hdm:=Nat.div_add_mod two v1;rw[Nat.mul_comm]at hdm;refine⟨?_,rfl,by generalize two / v1=z at *;omega,by omega,hdm.symm⟩;rw[show((two:Nat):Int).tdiv ((v1:Nat):Int)=((two / v1:Nat):Int)from rfl];generalize two / v1=z at *;exact u64w _ (by omega)
theorem guess_vals{q r u2 v2:Nat}(hr:r< 4294967296)(hu:u2< 4294967296)(hv:v2< 4294967296):
  Go.bits .or .u64 (IntKind.u64.wrap ((r:Int) * 4294967296)) (u2:Int)=((r * 4294967296+u2:Nat):Int)∧(q< 4294967296→IntKind.u64.wrap ((q:Int) * (v2:Int))=((q * v2:Nat):Int)):=by
 refine⟨or_u64 hr hu,fun hq=>?_⟩;have hp:q * v2≤4294967295 * 4294967295:=Nat.mul_le_mul (by omega) (by omega);have ep:((q:Nat):Int) * ((v2:Nat):Int)=((q * v2:Nat):Int):=by simp
 rw[ep];generalize q * v2=z at *;exact u64w _ (by omega)
theorem guess_dec{q r v1 two QQ:Nat}(h2:q< 18446744073709551616)(h3:r< 4294967296)(h5:two=q * v1+r)(hv:v1< 4294967296)(hd:QQ< q):
  IntKind.u64.wrap ((q:Int) - 1)=((q - 1:Nat):Int)∧IntKind.u64.wrap ((r:Int) + (v1:Int))=((r+v1:Nat):Int)∧q - 1< 18446744073709551616∧two=(q - 1) * v1+ (r+v1)∧QQ≤q - 1∧q - 1< q:=by
 refine⟨by rw[u64w _ (by omega)];omega,by rw[u64w _ (by omega)];omega,by omega,?_,by omega,by omega⟩;obtain⟨z,rfl⟩: ∃z,q=z+1:=⟨q - 1,by omega⟩;rw[h5,Nat.add_mul,Nat.one_mul,Nat.add_sub_cancel];omega
theorem le_nat{a b:Nat} :((a:Nat):Int)≤((b:Nat):Int)↔a≤b:=Int.ofNat_le
theorem lt_nat{a b:Nat} :((a:Nat):Int)< ((b:Nat):Int)↔a< b:=Int.ofNat_lt
theorem geB{q:Nat} :(4294967296:Int)≤(q:Int)↔4294967296≤q:=Int.ofNat_le
theorem predB{q:Nat}(h0:0< q)(h:q< 4294967296):IntKind.u64.wrap ((q:Int) - 1)=((q - 1:Nat):Int):=by rw[u64w _ (by omega)];omega
theorem own_blk{g o n c k:Nat}(h:(Value.slice (some ⟨g,o,none⟩) n c).ownBlock=some k):g=k:=by simpa [Value.ownBlock]using h
theorem wU{z:Nat}(h:z< 4294967296):IntKind.u64.wrap (z:Int)=(z:Int):=u64w _ (by omega)
theorem neI{z:Nat}(h:0< z): ¬ ((z:Int)=0):=by omega
theorem nat_div.calls(A0:Option Addr)(c0:Nat)(l0:List Int)(A1:Option Addr)(c1:Nat)(l1:List Int)(r1 r2:List Int)(w:World)(hr0:Kd.C (Kd.int .u32) w A0 l0.length l0)(hc0:l0.length≤c0)(hr1:Kd.C (Kd.int .u32) w A1 l1.length l1)(hc1:l1.length≤c1)(h:nat_div.f l0 l1=some (r1,r2)):
  Calls Tryz.prog 208 #[.slice A0 l0.length c0,.slice A1 l1.length c1] w fun e w'=> ∃v0_ v1_:Value,e= .returned (.tuple #[v0_,v1_])∧Kd.V (Kd.int .u32) 87 w' w.heap.size (fun k_=>(w.heap.size≤k_)) v0_ r1∧Kd.V (Kd.int .u32) 87 w' w.heap.size (fun k_=>(w.heap.size≤k_)) v1_ r2∧Below w.heap.size w w':=by
 unfold nat_div.f at h;split at h
 case isFalse=>cases h
 case isTrue hok=>
 simp only[Bool.and_eq_true,decide_eq_true_eq,canonB_iff]at hok;obtain⟨⟨⟨hx,hy⟩,hy0⟩,hs⟩:=hok;obtain⟨rfl,rfl⟩:=Prod.mk.inj (Option.some.inj h);clear h;have HR0:=aM hr0;have HR1:=aM hr1;have HC0:=aM hc0;have HC1:=aM hc1;have HX:=aM hx;have HY:=aM hy;have HS:=aM hs;clear hr0 hr1 hc0 hc1 hx hy hs;have hyp:l1≠ [] :=fun e=>hy0 (by rw[e];rfl)
 have HV0:=aM (val_pos HY.out hyp);obtain⟨kc,hcmp⟩:=(natCompare_f HX.out HY.out (by have:=HS.out;omega)).rounds;by_cases hlt:valN l0< valN l1
 ·rw[cmp_lt hlt]at hcmp;have e1:digN (valN l0 / valN l1)= [] :=by rw[Nat.div_eq_of_lt hlt,digN_zero]
  have e2:digN (valN l0 % valN l1)=l0:=by rw[Nat.mod_eq_of_lt hlt,digN_val HX.out]
  rw[e1,e2];have HCmp:=aM hcmp;clear hcmp hlt e1 e2 hyp hy0;go_enter Tryz.func208,Tryz.ntmps208
  go_wp2_with fail
  refine(nat_compare.calls kc _ _ l0 _ _ l1 (-1) _ HR0.out HC0.out HR1.out HC1.out HCmp.out).mono ?_;rintro e w' ⟨rfl,⟨nd,rfl⟩⟩;go_wp2_with fail
  refine(slices_Clone_uint32_uint32.calls _ _ l0 l0 _ (Kd.C_drewN HR0.out _) HC0.out (if_pos (by have:=HS.out;omega))).mono ?_;rintro e w2 ⟨v,rfl,ho,hb⟩;have HO:=aM ho;have HB:=aM hb;clear ho hb;go_wp2_with fail
  go_ret2;exact⟨_,_,rfl,Kd.V_nil _ _ _ _ _,Kd.R_V (Kd.R_mono (Kd.R_bound HO.out) (fun k hk=>hk.2.1)),(pw_below_drewN (Below.refl _ _) _).trans HB.out⟩
 ·have hge: ¬cmpI (valN l0) (valN l1)< 0:=by unfold cmpI;rw[if_neg hlt];split<;>omega
  obtain⟨cv,hcv⟩: ∃cv,cv=cmpI (valN l0) (valN l1):=⟨_,rfl⟩;rw[←hcv]at hcmp hge;have HCmp:=aM hcmp;have HLt:=aM hlt;clear hcmp hcv hlt;by_cases h1:l1.length=1
  ·have h1z:(l1.length:Int)=1:=by omega
   have hd:0< dgt l1 0∧dgt l1 0< 4294967296∧valN l1=dgt l1 0:=by
    have e:=val_top l1 h1
    have:=dgt_lt HY.out.1 0
    have:=HV0.out
    rw[List.take_zero,Nat.pow_zero,Nat.one_mul,show valN [] =0 from rfl,Nat.zero_add]at e;omega
   obtain⟨ks,hsh⟩:=(natShort_f HX.out.1 (by have:=HS.out;omega) hd.1 hd.2.1).rounds;rw[←hd.2.2]at hsh;obtain⟨kt,htr⟩:=(trim_f (x:= [((valN l0 % valN l1:Nat):Int)]) (u32s_cons.2 ⟨by have:=Nat.mod_lt (valN l0) HV0.out;omega,u32s_nil⟩) (by simp)).rounds;have ev:valN [((valN l0 % valN l1:Nat):Int)] =valN l0 % valN l1:=by
    show(((valN l0 % valN l1:Nat):Int)).toNat+4294967296 * 0=_
    rw[Int.toNat_natCast];omega
   rw[ev]at htr;have HSh:=aM hsh;have HTr:=aM htr;obtain⟨rv,hrv⟩: ∃rv:Int,rv=((valN l0 % valN l1:Nat):Int):=⟨_,rfl⟩;rw[←hrv]at HSh HTr;obtain⟨ad,e2,hx2⟩:=Kd.at_int HR1.out 0 (by omega) (by omega);subst e2;have ed:rd l1 0=((valN l1:Nat):Int):=by rw[hd.2.2];exact rd_dgt HY.out.1 0
   rw[ed]at hx2;have hx2:w.cell? ad=some (.int .u32 ((valN l1:Nat):Int)):=by
    have e0:ad.add 0=ad:=by cases ad with|mk b o p=>unfold Addr.add;split<;>simp_all
    rw[Int.toNat_zero,e0]at hx2;exact hx2
   obtain⟨dv,hdv⟩: ∃dv:Int,dv=((valN l1:Nat):Int):=⟨_,rfl⟩;rw[←hdv]at hx2 HSh;clear hsh htr ev hrv ed hdv hd hyp h1 hy0;go_enter Tryz.func208,Tryz.ntmps208
   go_wp2_with fail
   refine(nat_compare.calls kc _ _ l0 _ _ l1 cv _ HR0.out HC0.out HR1.out HC1.out HCmp.out).mono ?_;rintro e w' ⟨rfl,⟨nd,rfl⟩⟩;go_wp2_with fail
   refine(nat_short.calls ks _ _ l0 dv _ rv _ (Kd.C_drewN HR0.out _) HC0.out HSh.out).mono ?_;rintro e w2 ⟨v,rfl,ho,hb⟩;have HO:=aM ho;have HB:=aM ((pw_below_drewN (Below.refl w.heap.size w) nd).trans hb);clear ho hb;go_wp2_with (first| (refine gD 36 ?_;refine li_ (Kd.int .u32) 87 36 ([rv] :List Int) [.int .u32 rv] (Reps.snoc (Reps.none _ _) (show Kd.M (Kd.int .u32) _ _ _ rv [.int .u32 rv]from rfl) rfl) ?_;intro v1 w1 ho hb _ _;obtain⟨A5,c5,rfl⟩:=Kd.R_slice ho;have HO2:=aM ho;have HB2:=aM hb;clear ho hb))
   refine(nat_trim.calls kt (fun k=>w.heap.size≤k) _ _ [rv] _ _ (Kd.R_V (Kd.R_mono (Kd.R_bound HO2.out) (fun k hk=>Nat.le_trans HB.out.size hk.2.1))) HTr.out).mono ?_;rintro e w3 ⟨v3,rfl,ho3,hb3⟩;have HO3:=aM ho3;have HB3:=aM hb3;clear ho3 hb3;go_wp2_with fail
   go_ret2;have hb13:Below w2.heap.size w2 w3:=HB2.out.trans (HB3.out.mono HB2.out.size);exact⟨_,_,rfl,Kd.V_below HO.out hb13,Kd.V_mono HO3.out (fun k hk=>hk.elim id (fun hk=>Nat.le_trans HB.out.size (Nat.le_trans HB2.out.size hk))),HB.out.trans (hb13.mono HB.out.size)⟩
  ·have h1b:((l1.length:Int)==1)=false:=beq_eq_false_iff_ne.2 (by omega);obtain⟨j,hj⟩: ∃j,l1.length=j+2:=⟨l1.length - 2,by omega⟩;obtain⟨hd0,hb32,hb1,hvl,hvt⟩:=norm_facts HY.out (j:=j+1) hj;have hdl:=dgt_lt HY.out.1 (j+1);obtain⟨n,hn⟩: ∃n,n=32 - Lib.bitLen (dgt l1 (j+1)):=⟨_,rfl⟩;rw[←hn]at hvl hvt;have hlz:bits_LeadingZeros32.f (dgt l1 (j+1):Nat)=some ((n:Nat):Int):=by
    unfold bits_LeadingZeros32.f bits_Len32.f;rw[if_pos (by omega),if_pos (by omega),Option.bind_some,Int.toNat_natCast,hn]
    congr 1
    unfold wrap64;omega
   have hK:0< 2 ^ n:=Nat.pow_pos (by decide);have hn32:n< 32:=by omega
   have hK32:2 ^ n≤4294967296:=by rw[show(4294967296:Nat)=2 ^ 32 from rfl];exact Nat.pow_le_pow_right (by decide) (by omega)
   obtain⟨k1,hl1⟩:=(natLeft_f HX.out.1 (by have:=HS.out;omega) hn32).rounds;have hls:l1.length< 4294960000:=by
    have:=canon_len_le HY.out HX.out.1 (Nat.le_of_not_lt HLt.out)
    have:=HS.out;omega
   obtain⟨k2,hl2⟩:=(natLeft_f HY.out.1 (by omega) hn32).rounds;have hP: ∀x:List Int,u32s x→2 ^ n * valN x< 4294967296 ^ (x.length+1):=fun x hu=>by
    have h3:=val_lt hu;have h4:2 ^ n * valN x< 2 ^ n * 4294967296 ^ x.length:=Nat.mul_lt_mul_of_pos_left h3 hK;have h5:2 ^ n * 4294967296 ^ x.length≤4294967296 * 4294967296 ^ x.length:=Nat.mul_le_mul_right _ hK32;rw[powB,Nat.mul_comm _ 4294967296];omega
   obtain⟨pu,pl,pv⟩:=padN_facts (hP l0 HX.out.1);obtain⟨qu,ql,qv⟩:=padN_facts (hP l1 HY.out.1);obtain⟨U,hU⟩: ∃U,U=padN (l0.length+1) (2 ^ n * valN l0):=⟨_,rfl⟩;obtain⟨Z,hZ⟩: ∃Z,Z=padN (l1.length+1) (2 ^ n * valN l1):=⟨_,rfl⟩;rw[←hU]at hl1 pu pl pv;rw[←hZ]at hl2 qu ql qv;obtain⟨k3,hl3⟩:=(trim_f qu (by omega)).rounds;rw[qv]at hl3;obtain⟨vs,hvs⟩: ∃vs,vs=digN (2 ^ n * valN l1):=⟨_,rfl⟩;have hvv:valN vs=2 ^ n * valN l1:=by rw[hvs,val_digN]
   have hvu:u32s vs:=by rw[hvs];exact u32s_digN _
   rw[←hvs]at hl3 hvl hvt;obtain⟨tp,htp⟩: ∃tp:Int,wrap64 ((l1.length:Int) - 1)=tp:=⟨_,rfl⟩;have htp':tp=((j+1:Nat):Int):=by rw[←htp,w64 _ (by omega)];omega
   have ht0:0≤tp:=by omega
   have ht1:tp< (l1.length:Int):=by omega
   obtain⟨ad,e2,hx2⟩:=Kd.at_int HR1.out tp (by omega) (by omega);subst e2;have ed:rd l1 tp=((dgt l1 (j+1):Nat):Int):=by rw[htp'];exact rd_dgt HY.out.1 _
   rw[ed]at hx2;obtain⟨dv,hdv⟩: ∃dv:Int,dv=((dgt l1 (j+1):Nat):Int):=⟨_,rfl⟩;rw[←hdv]at hx2 hlz;obtain⟨nz,hnz⟩: ∃nz:Int,nz=((n:Nat):Int):=⟨_,rfl⟩;rw[←hnz]at hlz hl1 hl2;have HN:=aM hnz;have HLZ:=aM hlz;have HL1:=aM hl1;have HL2:=aM hl2;have HL3:=aM hl3;have HP:=aM (And.intro pu (And.intro pl pv));have HVS:=aM (And.intro hvu (And.intro hvl (And.intro hvt hvv)));have HK:=aM hK;have HJ:=aM (And.intro hj (And.intro hls hn32));have HQL:=aM ql;clear hnz hlz hl1 hl2 hl3 pu pl pv qu ql qv hvu hvl hvt hvv hK hj hls hn32 hdv ed htp' hd0 hb32 hb1 hdl hn hK32 hP hU hZ hvs hyp hy0 h1;go_enter Tryz.func208,Tryz.ntmps208
   go_wp2_with fail
   refine(nat_compare.calls kc _ _ l0 _ _ l1 cv _ HR0.out HC0.out HR1.out HC1.out HCmp.out).mono ?_;rintro e w' ⟨rfl,⟨nd,rfl⟩⟩;go_wp2_with fail
   refine(bits_LeadingZeros32.calls dv nz _ HLZ.out).mono ?_;rintro e w' ⟨rfl,⟨nd2,rfl⟩⟩;generalize hq_:World.drewN (World.drewN w nd) nd2=w1;have HB1:=sF (Below w.heap.size w w1) (hq_▸pw_below_drewN (pw_below_drewN (Below.refl _ _) _) _);clear hq_ hx2;go_wp2_with fail
   refine(nat_left.calls k1 _ _ l0 nz U _ (Kd.C_below HR0.out HB1.out) HC0.out HL1.out).mono ?_;rintro e w2 ⟨vu,rfl,ho,hb⟩;obtain⟨gu,cu,rfl,hgb,hgl,_⟩:=Kd.R_form ho (by have:=HP.out.2.1;omega);have HU:=aM (Kd.own_of_R ho);obtain⟨mu,hmu⟩: ∃mu,mu=U.length:=⟨_,rfl⟩;rw[←hmu]at HU;rw[←hmu];have HMU:=aM hmu;clear hmu;have HB2:=aM (HB1.out.trans (hb.mono HB1.out.size));have HGU:=aM (And.intro (Nat.le_trans HB1.out.size hgb) hgl);clear ho hb hgb hgl;go_wp2_with fail
   refine(nat_left.calls k2 _ _ l1 nz Z _ (Kd.C_below HR1.out HB2.out) HC1.out HL2.out).mono ?_;rintro e w3 ⟨vz,rfl,ho,hb⟩;obtain⟨Az,cz,rfl⟩:=Kd.R_slice ho;have HZ:=aM ho;have HB3:=aM hb;clear ho hb;go_wp2_with fail
   refine(nat_trim.calls k3 (fun k=>w2.heap.size≤k) _ _ Z vs _ (Kd.R_V (Kd.R_mono (Kd.R_bound HZ.out) (fun k hk=>hk.2.1))) HL3.out).mono ?_;rintro e w4 ⟨vv,rfl,ho,hb⟩;obtain⟨Av,ca,rfl⟩:=Kd.V_slice ho;have HVV:=aM (Kd.V_mono (Kd.V_bound ho) (fun k hk=>(show w2.heap.size≤k∧k< w4.heap.size from⟨hk.1.elim id (fun h=>Nat.le_trans HB3.out.size h),hk.2⟩)));have HB4:=aM (HB3.out.trans (hb.mono HB3.out.size));clear ho hb HZ HB3;obtain⟨mo,hmo⟩: ∃mo:Nat,mo=l0.length - (j+1):=⟨_,rfl⟩;have hno:wrap64 ((mu:Int) - (vs.length:Int))=(mo:Int):=by
    have:=HP.out.2.1;have:=HMU.out;have:=HVS.out.2.1;have:=HJ.out;have:=HS.out
    have h9:=canon_len_le HY.out HX.out.1 (Nat.le_of_not_lt HLt.out);rw[w64 _ (by omega)];omega
   have HMO:=aM hmo;clear hmo;go_wp2_with (first| (refine gD 58 ?_;refine Kd.R_make (Kd.int .u32) _ 87 rfl (N:=58) rfl 57 _ _ rfl (wrap64 ((mu:Int) - (vs.length:Int))) rfl rfl Tryz.underlying57 (.int .u32 0) 4 info87 rfl (by decide) (by omega) 0 (ok:=fun _=>True) (okp:=fun _=>True) rfl (fun _ hk=>hk) trivial (by rw[hno];omega) (by rw[hno];have:=HS.out;have:=HMO.out;rw[Int.toNat_natCast];omega) (Below.refl _ _) (Nat.le_refl _) ?_;rw[hno,Int.toNat_natCast];intro v1 w5 ho hb _ hnew;have ho2:=Kd.own_of_R ho;rw[List.length_replicate]at ho2;obtain⟨go,co,rfl⟩:=slice_form ho2 (hnew.imp fun b h=>h.1);have HO:=aM ho2;have HB5:=aM hb;clear ho ho2 hb hnew))
   have HU5:=sF (w5.ownsRow w.heap.size 87 1 (.slice (some ⟨gu,0,none⟩) mu cu) mu (encs (Value.int .u32) U)) (own_weaken (own_move (own_move HU.out (fun k hk=>(HB4.out.block k (HU.out.lt k hk).2))) (fun k hk=>HB5.out.block k (Nat.lt_of_lt_of_le (HU.out.lt k hk).2 HB4.out.size))) HB1.out.size);have HO5:=aM (own_weaken HO.out (Nat.le_trans HB2.out.size HB4.out.size));have HGO:=sF (w4.heap.size≤go) ((HO.out.lt go (by simp[Value.ownBlock])).1);have HV5:=sF (Kd.V (Kd.int .u32) 87 w5 w.heap.size (fun k=>w.heap.size≤k∧k≠gu∧k≠go) (.slice Av vs.length ca) vs) (Kd.V_mono (Kd.V_below HVV.out HB5.out) (fun k hk=>⟨Nat.le_trans HB2.out.size hk.1,fun e=>by have:=HGU.out.2;omega,fun e=>by have:=HGO.out;omega⟩));have HBB:=aM (HB2.out.trans ((HB4.out.trans (HB5.out.mono HB4.out.size)).mono HB2.out.size));have HGN:=sF (gu≠go) (fun e=>by have:=HGU.out.2;have:=HGO.out;have:=HB4.out.size;omega);clear HU HO HVV HB1 HB2 HB4 HB5 HGO;have hio:wrap64 ((mo:Int) - 1)=(mo:Int) - 1:=w64 _ (by have:=HMO.out;have:=HS.out;omega);go_loopg [13] mo (fun gg v13 w'=> ∃ (i:Nat) (iz:Int) (us os:List Int),v13= .int .i64 iz∧Aside0 (iz=(i:Int) - 1∧i≤gg∧i≤mo)∧Aside0 (w'.ownsRow w.heap.size 87 1 (.slice (some ⟨gu,0,none⟩) mu cu) mu (encs (Value.int .u32) us))∧Aside0 (w'.ownsRow w.heap.size 87 1 (.slice (some ⟨go,0,none⟩) mo co) mo (encs (Value.int .u32) os))∧Aside0 (Kd.V (Kd.int .u32) 87 w' w.heap.size (fun k=>w.heap.size≤k∧k≠gu∧k≠go) (.slice Av vs.length ca) vs)∧Aside0 (Below w.heap.size w w')∧Aside0 (DivAt (2 ^ n * valN l0) vs mu mo i us os))
   case atStart=>
    refine⟨mo,(mo:Int) - 1,U,List.replicate mo 0,by rw[hio],⟨rfl,Nat.le_refl _,Nat.le_refl _⟩,HU5,HO5,HV5,HBB,⟨HMU.out.symm,HP.out.1,?_,List.length_replicate,u32s_zeros _,fun j _=>by unfold dgt;rw[List.getD_eq_getElem?_getD,List.getElem?_replicate];split<;>rfl,?_⟩⟩
    ·rw[HP.out.2.2,HMO.out];exact div_start HX.out.1 HJ.out.2.2 (by have:=HVS.out.2.1;omega) HVS.out.2.2.1 (by have h9:=canon_len_le HY.out HX.out.1 (Nat.le_of_not_lt HLt.out);have:=HJ.out.1;omega)
    ·rw[val_zeros,Nat.mul_zero,Nat.zero_add,HP.out.2.2]
   case round=>
    clear HU5 HO5 HV5 HBB;obtain⟨i,iz,us,os,rfl,HI,HUr,HOr,HVr,HB,HD⟩:=hrel;cases i with
    |zero=>
     have hneg: ¬0≤iz:=by have:=HI.out.1;omega
     obtain⟨hD1,hD2,hD3,hD4,hD5,_,hD7⟩:=HD.out;have hsz:us.length< 4294967000∧os.length< 4294967000:=by have:=HMU.out;have:=HP.out.2.1;have:=HMO.out;have:=HS.out;omega
     obtain⟨k4,h4⟩:=(trim_f hD5 (by omega)).rounds;obtain⟨k5,h5⟩:=(trim_f hD2 (by omega)).rounds;obtain⟨k6,h6⟩:=(natRight_f (u32s_digN (valN us)) (by have:=len_digN_le (val_lt hD2);omega) HJ.out.2.2).rounds;rw[val_digN,←HN.out]at h6;rw[Nat.pow_zero,Nat.mul_one,HVS.out.2.2.2]at hD3;rw[HVS.out.2.2.2]at hD7;obtain⟨e4,e5⟩:=shift_div HK.out hD7 hD3;rw[e4]at h4;rw[e5]at h6;have H4:=aM h4;have H5:=aM h5;have H6:=aM h6;clear h4 h5 h6 e4 e5 hD2 hD3 hD5 hD7 hsz HD HI hio hno;subst hD1;subst hD4;go_wp2_with fail
     refine(nat_trim.calls k4 (fun k=>w.heap.size≤k) _ _ os _ _ (Kd.R_V (Kd.R_of_own HOr.out (fun k hk=>(HOr.out.lt k hk).1))) H4.out).mono ?_;rintro e w6 ⟨v6,rfl,ho6,hb6⟩;have H6o:=aM ho6;have HB6:=aM hb6;clear ho6 hb6;go_wp2_with fail
     refine(nat_trim.calls k5 (fun k=>w.heap.size≤k) _ _ us _ _ (Kd.V_below (Kd.R_V (base':=0) (Kd.R_of_own HUr.out (fun k hk=>(HUr.out.lt k hk).1))) HB6.out) H5.out).mono ?_;rintro e w7 ⟨v7,rfl,ho7,hb7⟩;obtain⟨A7,c7,rfl⟩:=Kd.V_slice ho7;have H7o:=aM ho7;have HB7:=aM hb7;clear ho7 hb7;go_wp2_with fail
     refine(nat_right.calls k6 _ _ (digN (valN us)) nz _ _ (Kd.V_reads' H7o.out).2.2 (Kd.V_reads' H7o.out).2.1 H6.out).mono ?_;rintro e w8 ⟨v8,rfl,ho8,hb8⟩;have H8o:=aM ho8;have HB8:=aM hb8;clear ho8 hb8;go_wp2_with fail
     go_ret2;have z1:=HB.out.size;have z2:=HB6.out.size;have z3:=HB7.out.size;have hb68:Below w6.heap.size w6 w8:=HB7.out.trans (HB8.out.mono z3);exact⟨_,_,rfl,Kd.V_mono (Kd.V_below H6o.out hb68) (fun k hk=>hk.elim id (fun hk=>Nat.le_trans z1 hk)),Kd.V_mono H8o.out (fun k hk=>by have hk:w7.heap.size≤k:=hk;omega),HB.out.trans ((HB6.out.trans (hb68.mono z2)).mono z1)⟩
    |succ i=>
     have hul:=HD.out.ul;subst hul;have hol:=HD.out.ol;subst hol;obtain⟨p0,p1,p2,p3,s1,s2,iy,⟨hp0,hp1,hp2,hp3,hs1,hs2,hiy⟩,⟨p0a,p0b⟩,⟨p1a,p1b⟩,⟨p2a,p2b⟩,⟨s1a,s1b⟩,⟨s2a,s2b⟩,⟨hge,hiz⟩,⟨hip,hpl⟩,⟨q0,q1,q2,y1,y2⟩,ei,em,hio2,hin,hin3,hSz,hSz2,hiy'⟩:=div_idx HI.out.1 HVS.out.2.1 HI.out.2.2 HMO.out (HMU.out.trans HP.out.2.1) HS.out;have EI:=aM (And.intro ei em);have HIN:=aM hin;have HIN3:=aM (And.intro hio2 (And.intro hin3 (And.intro hSz (And.intro hSz2 hiy'))));have hcl:us.length≤cu:=(Kd.R_reads' (Kd.R_of_own (h1:=fun _=>rfl) (ok:=fun _=>True) HUr.out (fun _ _=>trivial))).2.1;have hp3c:p3≤(cu:Int):=Int.le_trans hpl (le_nat.2 hcl);have hcne: ¬cu=iz.toNat:=by rw[ei];omega
     obtain⟨a0,g0⟩: ∃a0:Int,a0=((dgt us (i+ (j+2)):Nat):Int):=⟨_,rfl⟩;obtain⟨a1,g1⟩: ∃a1:Int,a1=((dgt us (i+ (j+1)):Nat):Int):=⟨_,rfl⟩;obtain⟨a2,g2⟩: ∃a2:Int,a2=((dgt us (i+j):Nat):Int):=⟨_,rfl⟩;obtain⟨b1,f1⟩: ∃b1:Int,b1=((dgt vs (j+1):Nat):Int):=⟨_,rfl⟩;obtain⟨b2,f2⟩: ∃b2:Int,b2=((dgt vs j:Nat):Int):=⟨_,rfl⟩;have hc0:=(rowU_at HUr.out p0 p0a p0b).1;rw[show rd us p0=a0 by rw[q0,g0];exact rd_dgt HD.out.uu _]at hc0;have hc1:=(rowU_at HUr.out p1 p1a p1b).1;rw[show rd us p1=a1 by rw[q1,g1];exact rd_dgt HD.out.uu _]at hc1;have hc2:=(rowU_at HUr.out p2 p2a p2b).1;rw[show rd us p2=a2 by rw[q2,g2];exact rd_dgt HD.out.uu _]at hc2;obtain⟨av,ev,hv1⟩:=Kd.at_int (Kd.V_reads' HVr.out).2.2 s1 s1a s1b;subst ev;obtain⟨av2,ev,hv2⟩:=Kd.at_int (Kd.V_reads' HVr.out).2.2 s2 s2a s2b;cases ev;rw[show rd vs s1=b1 by rw[y1,f1];exact rd_dgt HVS.out.1 _]at hv1;rw[show rd vs s2=b2 by rw[y2,f2];exact rd_dgt HVS.out.1 _]at hv2;have d0:=dgt_lt HD.out.uu (i+ (j+2));have d1:=dgt_lt HD.out.uu (i+ (j+1));have d2:=dgt_lt HD.out.uu (i+j);have dv1:=dgt_lt HVS.out.1 (j+1);have dv2:=dgt_lt HVS.out.1 j;have hv1p:0< dgt vs (j+1):=Nat.lt_of_lt_of_le (by decide) HVS.out.2.2.1;have wa0:IntKind.u64.wrap a0=a0:=by rw[g0];exact wU d0
     have wa1:IntKind.u64.wrap a1=a1:=by rw[g1];exact wU d1
     have wa2:IntKind.u64.wrap a2=a2:=by rw[g2];exact wU d2
     have wb1:IntKind.u64.wrap b1=b1:=by rw[f1];exact wU dv1
     have wb2:IntKind.u64.wrap b2=b2:=by rw[f2];exact wU dv2
     have b1n: ¬b1=0:=by rw[f1];exact neI hv1p
     obtain⟨x0,x1,x2,x3,x4,x5⟩:=guess_facts HVS.out.1 HVS.out.2.1 HVS.out.2.2.1 HD.out hin;obtain⟨two,htwo⟩: ∃two,two=dgt us (i+ (j+2)) * 4294967296+dgt us (i+ (j+1)):=⟨_,rfl⟩;rw[←htwo]at x1 x2 x3 x4 x5;obtain⟨QQ,hQQ⟩: ∃QQ,QQ=valN (winN us i (j+2)) / valN vs:=⟨_,rfl⟩;rw[←hQQ]at x1 x2 x3;obtain⟨k7,k8,k9,k10,k11⟩:=guess_start htwo d0 d1 hv1p dv1;obtain⟨tw,htw⟩: ∃tw:Int,Go.bits .or .u64 (IntKind.u64.wrap (a0 * 4294967296)) a1=tw:=⟨_,rfl⟩;have htw':tw=((two:Nat):Int):=by rw[←htw,g0,g1,or_u64 d0 d1,htwo]
     obtain⟨qq,hqq⟩: ∃qq:Int,IntKind.u64.wrap (tw.tdiv b1)=qq:=⟨_,rfl⟩;obtain⟨rr,hrr⟩: ∃rr:Int,tw.tmod b1=rr:=⟨_,rfl⟩;have hqq':qq=((two / dgt vs (j+1):Nat):Int):=by rw[←hqq,htw',f1];exact k7
     have hrr':rr=((two % dgt vs (j+1):Nat):Int):=by rw[←hrr,htw',f1];exact k8
     have HX0:=aM (And.intro x0 (And.intro x1 (And.intro x2 (And.intro x3 (And.intro x4 x5)))));have HQQ:=aM hQQ;have HTW:=aM (And.intro hqq' (And.intro hrr' (And.intro k9 (And.intro k10 k11))));have HD12:=aM (And.intro d2 (And.intro dv1 dv2));have G:=aM (And.intro g2 (And.intro f1 f2));clear x0 x1 x2 x3 x4 x5 hQQ k7 k8 k9 k10 k11 htw' hqq' hrr' htwo g0 g1 g2 f1 f2 d0 d1 d2 dv1 dv2 hv1p q0 q1 q2 y1 y2 ei em hio2 hin hin3 hSz hSz2 hiy' hpl hcl hio hno;go_wp2_with fail
     go_quiet (fail)
     go_wp2_with fail
     go_quiet (fail)
     generalize hq_:World.drewN (World.drewN wr _) _=wa;have HUr2:=sF (wa.ownsRow w.heap.size 87 1 (.slice (some ⟨gu,0,none⟩) us.length cu) us.length (encs (Value.int .u32) us)) (hq_▸own_move HUr.out (fun _ _=>rfl));have HOr2:=sF (wa.ownsRow w.heap.size 87 1 (.slice (some ⟨go,0,none⟩) os.length co) os.length (encs (Value.int .u32) os)) (hq_▸own_move HOr.out (fun _ _=>rfl));have HVr2:=sF (Kd.V (Kd.int .u32) 87 wa w.heap.size (fun k=>w.heap.size≤k∧k≠gu∧k≠go) (.slice (some av) vs.length ca) vs) (hq_▸Kd.V_drewN (Kd.V_drewN HVr.out _) _);have HB2:=sF (Below w.heap.size w wa) (hq_▸pw_below_drewN (pw_below_drewN HB.out _) _);have kc2:wa.cell? ⟨gu,p2.toNat,none⟩=some (.int .u32 a2):=by rw[←hq_];exact hc2
     have kv1:wa.cell? (av.add s1.toNat)=some (.int .u32 b1):=by rw[←hq_];exact hv1
     have kv2:wa.cell? (av.add s2.toNat)=some (.int .u32 b2):=by rw[←hq_];exact hv2
     clear hq_ HUr HOr HVr HB hc0 hc1 hc2 hv1 hv2 p0a p0b p1a p1b hp1 wa0 wa1 htw hqq hrr b1n;go_wp2_with fail
     go_loopg [15,16] (two / dgt vs (j+1)) (fun gg v15 v16 w'=> ∃ (q r:Nat) (qz rz:Int),v15= .int .u64 qz∧v16= .int .u64 rz∧Aside0 (qz=(q:Int)∧rz=(r:Int)∧q≤gg∧q< 18446744073709551616∧r< 4294967296∧two=q * dgt vs (j+1) +r∧QQ≤q)∧ ∃nq,w'=wa.drewN nq)
     case atStart=>exact⟨two / dgt vs (j+1),two % dgt vs (j+1),qq,rr,rfl,rfl,⟨HTW.out.1,HTW.out.2.1,Nat.le_refl _,HTW.out.2.2.1,HTW.out.2.2.2.1,HTW.out.2.2.2.2,HX0.out.2.1⟩,0,(World.drewN_zero wa).symm⟩
     case round=>
      obtain⟨q,r,qz,rz,rfl,rfl,HQ,nq,rfl⟩:=hrel;obtain⟨e1,e2,h1,h2,h3,h5,h4⟩:=HQ.out;obtain⟨x0,x1,x2,x3,x4,x5⟩:=HX0.out;obtain⟨g2,f1,f2⟩:=G.out;obtain⟨d2,dv1,dv2⟩:=HD12.out;obtain⟨k7,k8⟩:=guess_vals (q:=q) h3 d2 dv2;obtain⟨mz,hmz⟩: ∃mz:Int,IntKind.u64.wrap (qz * b2)=mz:=⟨_,rfl⟩;obtain⟨sz,hsz⟩: ∃sz:Int,Go.bits .or .u64 (IntKind.u64.wrap (rz * 4294967296)) a2=sz:=⟨_,rfl⟩;have hsz':sz=((r * 4294967296+dgt us (i+j):Nat):Int):=by rw[←hsz,e2,g2];exact k7
      have hmz':q< 4294967296→mz=((q * dgt vs j:Nat):Int):=fun hq=>by rw[←hmz,e1,f2];exact k8 hq
      obtain⟨qv,hqd⟩: ∃qv:Int,IntKind.u64.wrap (qz - 1)=qv:=⟨_,rfl⟩;obtain⟨rn,hrn⟩: ∃rn:Int,IntKind.u64.wrap (rz+b1)=rn:=⟨_,rfl⟩;by_cases cA:4294967296≤q
      ·have cAb:decide (4294967296≤qz)=true:=decide_eq_true (by rw[e1];exact geB.2 cA);have hdec:=x2 q r h5 cA;clear hmz hsz;obtain⟨m1,m2,m3,m4,m5,m6⟩:=guess_dec h2 h3 h5 dv1 hdec;have hq1:qv=((q - 1:Nat):Int):=by rw[←hqd,e1];exact m1
       have hrn':rn=((r+dgt vs (j+1):Nat):Int):=by rw[←hrn,e2,f1];exact m2
       by_cases cR:4294967296≤r+dgt vs (j+1)
       ·have cRb:decide (4294967296≤rn)=true:=decide_eq_true (by rw[hrn'];exact geB.2 cR);have hf:=x4 (q - 1) (r+dgt vs (j+1)) m4 cR;have FIN:=sF (∃qn:Nat,qv=(qn:Int)∧qn< 4294967296∧QQ≤qn∧qn * valN vs< valN (winN us i (j+2)) +valN vs) (⟨q - 1,hq1,hf.1,m5,hf.2⟩);clear hf hq1 hrn' m1 m2 m3 m4 m5 m6 hdec cR cA x0 x1 x2 x3 x4 x5 e1 e2 h1 h2 h3 h5 h4 k7 k8 hmz' hsz' g2 f1 f2 d2 dv1 dv2 HQ;go_wp2_with fail
        go_quiet (fail)
        go_wp2_with fail
        obtain⟨qn,hqn,z1,z2,z3⟩:=FIN.out;generalize hq_:World.drewN wa _=wb;have HUb:=sF (wb.ownsRow w.heap.size 87 1 (.slice (some ⟨gu,0,none⟩) us.length cu) us.length (encs (Value.int .u32) us)) (hq_▸own_move HUr2.out (fun _ _=>rfl));have HOb:=sF (wb.ownsRow w.heap.size 87 1 (.slice (some ⟨go,0,none⟩) os.length co) os.length (encs (Value.int .u32) os)) (hq_▸own_move HOr2.out (fun _ _=>rfl));have HVb:=sF (Kd.V (Kd.int .u32) 87 wb w.heap.size (fun k=>w.heap.size≤k∧k≠gu∧k≠go) (.slice (some av) vs.length ca) vs) (hq_▸Kd.V_drewN HVr2.out _);have HBb:=sF (Below w.heap.size w wb) (hq_▸pw_below_drewN HB2.out _);clear hq_ HUr2 HOr2 HVr2 HB2 kc2 kv1 kv2 FIN;have hWl:=win_len HIN.out;have TG:=take_good (win_u32 HD.out.uu i (j+2)) HVS.out.1 (by rw[hWl];exact HIN3.out.2.2.2.1) (by rw[hWl,HVS.out.2.1];exact Nat.lt_succ_self _) HX0.out.1 z1 (HQQ.out▸z2) z3;have HW0:=sF (WinU wb w.heap.size gu cu i (j+3) us (winN us i (j+2))) (⟨by rw[show us.take i++ (winN us i (j+2) ++us.drop (i+ (j+3)))=us from winPut_self];exact HUb.out,hWl,HIN3.out.2.1⟩);have HVg:=sF (∀W_,wb.grownBy W_ (some gu)→Kd.C (Kd.int .u32) W_ (some av) vs.length vs) (fun W_ hg=>(Kd.V_reads' (Kd.V_grown HVb.out hg (fun k hk e=>hk.2.1 (Option.some.inj e)))).2.2);have hca:=aM (Kd.V_reads' HVb.out).2.1;rw[EI.out.2,EI.out.1];rcases TG with ⟨o,t1,t2,t3,t4,t5⟩ | ⟨o,o2,t1,t2,t3,t6,t7,t8,t4,t9,t5⟩
        ·obtain⟨kt,ht⟩:=t1.rounds;rw[←hqn]at ht;have HT:=aM ht;have HQF:=sF (qv=((valN (winN us i (j+2)) / valN vs:Nat):Int)∧0≤qv∧qv< 4294967296) (⟨by rw[hqn,←t5],by rw[hqn];exact natU z1⟩);have HWn:=sF (u32s o∧o.length=j+2+1∧valN o=valN (winN us i (j+2)) % valN vs) (⟨t2,t3.trans hWl,t4⟩);clear ht t1 t2 t3 t4 t5 hqn z1 z2 z3 hWl;refine(nat_take.calls kt w.heap.size gu cu i (j+3) _ us (winN us i (j+2)) (some av) ca vs qv true o wb HW0.out HVg.out hca.out HT.out).mono ?_;rintro e w7 ⟨rfl,hwin,hg⟩;have HWin:=aM hwin;have HG7:=aM hg;clear hwin hg;have HOc:=sF (w7.ownsRow w.heap.size 87 1 (.slice (some ⟨go,0,none⟩) os.length co) os.length (encs (Value.int .u32) os)) (own_move HOb.out (fun k hk=>HG7.out.block k (HOb.out.lt k hk).2 (fun e=>HGN.out ((Option.some.inj e).symm.trans (own_blk hk).symm))));obtain⟨hs3,hs4⟩:=rowU_at HOc.out iz hge hiz;have HST:=aM (own_store_of HOc.out iz qv);have hvm:qv % 4294967296=qv:=Int.emod_eq_of_lt HQF.out.2.1 HQF.out.2.2;go_wp2_with fail
         go_roundg i
         case measure=>exact HI.out.2.1
         case rel=>
          have hst:=HST.out;have hDn:=div_step HVS.out.1 HVS.out.2.1 HX0.out.1 HD.out HIN.out HIN3.out.1 HWn.out.1 HWn.out.2.1 HWn.out.2.2;rw[←HQF.out.1]at hDn;rw[EI.out.1]at hst;rw[EI.out.1];exact⟨i,iy,winPut us o i (j+2),os.set i qv,by rw[hiy],⟨HIN3.out.2.2.2.2,Nat.le_refl _,Nat.le_of_lt HIN3.out.1⟩,⟨own_move HWin.out.own (fun k hk=>Below.heap_setCell _ _ _ k (fun e=>HGN.out ((own_blk hk).trans e)))⟩,⟨hst.1⟩,⟨Kd.V_far (p:=⟨go,i,none⟩) (Kd.V_grown HVb.out HG7.out (fun k hk e=>hk.2.1 (Option.some.inj e))) (fun k hk=>hk.2.2) _⟩,⟨Below.setCell (Below.grown HBb.out HG7.out HBb.out.size (fun k e=>(Option.some.inj e)▸(HUb.out.lt gu rfl).1)) (p:=⟨go,i,none⟩) (HOb.out.lt go rfl).1 _⟩,⟨hDn⟩⟩
        ·obtain⟨kt,ht⟩:=t1.rounds;obtain⟨kg,hg2⟩:=t6.rounds;rw[←hqn]at ht;have HT:=aM ht;have HT2:=aM hg2;obtain⟨qy,hqy⟩: ∃qy:Int,IntKind.u64.wrap (qv - 1)=qy:=⟨_,rfl⟩;have hqy':qy=((qn - 1:Nat):Int):=by rw[←hqy,hqn];exact predB t9 z1
         have HQF:=sF (qy=((valN (winN us i (j+2)) / valN vs:Nat):Int)∧0≤qy∧qy< 4294967296) (⟨by rw[hqy',t5],by rw[hqy'];exact natU (Nat.lt_of_le_of_lt (Nat.sub_le _ _) z1)⟩);have HWn:=sF (u32s o2∧o2.length=j+2+1∧valN o2=valN (winN us i (j+2)) % valN vs) (⟨t7,t8.trans hWl,t4⟩);clear ht hg2 t1 t2 t3 t4 t5 t6 t7 t8 t9 hqn z1 z2 z3 hWl hqy';refine(nat_take.calls kt w.heap.size gu cu i (j+3) _ us (winN us i (j+2)) (some av) ca vs qv false o wb HW0.out HVg.out hca.out HT.out).mono ?_;rintro e w6 ⟨rfl,hwin,hg⟩;have HWin0:=aM hwin;have HG6:=aM hg;clear hwin hg;go_wp2_with fail
         rw[EI.out.2,EI.out.1];refine(nat_give.calls kg w.heap.size gu cu i (j+3) _ us o (some av) ca vs o2 w6 HWin0.out (fun W_ hg=>HVg.out W_ (HG6.out.trans hg)) hca.out HT2.out).mono ?_;rintro e w7 ⟨rfl,hwin,hg⟩;have HWin:=aM hwin;have HG7:=aM (HG6.out.trans hg);clear hwin hg;have HOc:=sF (w7.ownsRow w.heap.size 87 1 (.slice (some ⟨go,0,none⟩) os.length co) os.length (encs (Value.int .u32) os)) (own_move HOb.out (fun k hk=>HG7.out.block k (HOb.out.lt k hk).2 (fun e=>HGN.out ((Option.some.inj e).symm.trans (own_blk hk).symm))));obtain⟨hs3,hs4⟩:=rowU_at HOc.out iz hge hiz;have HST:=aM (own_store_of HOc.out iz qy);have hvm:qy % 4294967296=qy:=Int.emod_eq_of_lt HQF.out.2.1 HQF.out.2.2;go_wp2_with fail
         go_roundg i
         case measure=>exact HI.out.2.1
         case rel=>
          have hst:=HST.out;have hDn:=div_step HVS.out.1 HVS.out.2.1 HX0.out.1 HD.out HIN.out HIN3.out.1 HWn.out.1 HWn.out.2.1 HWn.out.2.2;rw[←HQF.out.1]at hDn;rw[EI.out.1]at hst;rw[EI.out.1];exact⟨i,iy,winPut us o2 i (j+2),os.set i qy,by rw[hiy],⟨HIN3.out.2.2.2.2,Nat.le_refl _,Nat.le_of_lt HIN3.out.1⟩,⟨own_move HWin.out.own (fun k hk=>Below.heap_setCell _ _ _ k (fun e=>HGN.out ((own_blk hk).trans e)))⟩,⟨hst.1⟩,⟨Kd.V_far (p:=⟨go,i,none⟩) (Kd.V_grown HVb.out HG7.out (fun k hk e=>hk.2.1 (Option.some.inj e))) (fun k hk=>hk.2.2) _⟩,⟨Below.setCell (Below.grown HBb.out HG7.out HBb.out.size (fun k e=>(Option.some.inj e)▸(HUb.out.lt gu rfl).1)) (p:=⟨go,i,none⟩) (HOb.out.lt go rfl).1 _⟩,⟨hDn⟩⟩
       ·have cRb:decide (4294967296≤rn)=false:=decide_eq_false (by rw[hrn'];exact fun h=>cR (geB.1 h));have H6:=sF (qv=((q - 1:Nat):Int)∧rn=((r+dgt vs (j+1):Nat):Int)∧q - 1< 18446744073709551616∧r+dgt vs (j+1)< 4294967296∧two=(q - 1) * dgt vs (j+1) + (r+dgt vs (j+1))∧QQ≤q - 1∧q - 1< q) (⟨hq1,hrn',m3,Nat.lt_of_not_le cR,m4,m5,m6⟩);clear hq1 hrn' m1 m2 m3 m4 m5 m6 hdec cR cA x0 x1 x2 x3 x4 x5 e1 e2 h1 h2 h3 h5 h4 k7 k8 hmz' hsz' g2 f1 f2 d2 dv1 dv2;go_wp2_with fail
        go_quiet (fail)
        go_wp2_with fail
        go_roundg (q - 1)
        case measure=>exact Nat.lt_of_lt_of_le H6.out.2.2.2.2.2.2 HQ.out.2.2.1
        case rel=>exact⟨q - 1,r+dgt vs (j+1),qv,rn,rfl,rfl,⟨H6.out.1,H6.out.2.1,Nat.le_refl _,H6.out.2.2.1,H6.out.2.2.2.1,H6.out.2.2.2.2.1,H6.out.2.2.2.2.2.1⟩,_,rfl⟩
      ·have cAb:decide (4294967296≤qz)=false:=decide_eq_false (by rw[e1];exact fun h=>cA (geB.1 h));have hq32:=Nat.lt_of_not_le cA;by_cases cB:r * 4294967296+dgt us (i+j)< q * dgt vs j
       ·have cBb:decide (sz< mz)=true:=decide_eq_true (by rw[hsz',hmz' hq32];exact lt_nat.2 cB);have hdec:=x3 q r h5 cB;clear hq32 cB;obtain⟨m1,m2,m3,m4,m5,m6⟩:=guess_dec h2 h3 h5 dv1 hdec;have hq1:qv=((q - 1:Nat):Int):=by rw[←hqd,e1];exact m1
        have hrn':rn=((r+dgt vs (j+1):Nat):Int):=by rw[←hrn,e2,f1];exact m2
        by_cases cR:4294967296≤r+dgt vs (j+1)
        ·have cRb:decide (4294967296≤rn)=true:=decide_eq_true (by rw[hrn'];exact geB.2 cR);have hf:=x4 (q - 1) (r+dgt vs (j+1)) m4 cR;have FIN:=sF (∃qn:Nat,qv=(qn:Int)∧qn< 4294967296∧QQ≤qn∧qn * valN vs< valN (winN us i (j+2)) +valN vs) (⟨q - 1,hq1,hf.1,m5,hf.2⟩);clear hf hq1 hrn' m1 m2 m3 m4 m5 m6 hdec cR cA x0 x1 x2 x3 x4 x5 e1 e2 h1 h2 h3 h5 h4 k7 k8 hmz' hsz' g2 f1 f2 d2 dv1 dv2 HQ;go_wp2_with fail
         go_quiet (fail)
         go_wp2_with fail
         obtain⟨qn,hqn,z1,z2,z3⟩:=FIN.out;generalize hq_:World.drewN wa _=wb;have HUb:=sF (wb.ownsRow w.heap.size 87 1 (.slice (some ⟨gu,0,none⟩) us.length cu) us.length (encs (Value.int .u32) us)) (hq_▸own_move HUr2.out (fun _ _=>rfl));have HOb:=sF (wb.ownsRow w.heap.size 87 1 (.slice (some ⟨go,0,none⟩) os.length co) os.length (encs (Value.int .u32) os)) (hq_▸own_move HOr2.out (fun _ _=>rfl));have HVb:=sF (Kd.V (Kd.int .u32) 87 wb w.heap.size (fun k=>w.heap.size≤k∧k≠gu∧k≠go) (.slice (some av) vs.length ca) vs) (hq_▸Kd.V_drewN HVr2.out _);have HBb:=sF (Below w.heap.size w wb) (hq_▸pw_below_drewN HB2.out _);clear hq_ HUr2 HOr2 HVr2 HB2 kc2 kv1 kv2 FIN;have hWl:=win_len HIN.out;have TG:=take_good (win_u32 HD.out.uu i (j+2)) HVS.out.1 (by rw[hWl];exact HIN3.out.2.2.2.1) (by rw[hWl,HVS.out.2.1];exact Nat.lt_succ_self _) HX0.out.1 z1 (HQQ.out▸z2) z3;have HW0:=sF (WinU wb w.heap.size gu cu i (j+3) us (winN us i (j+2))) (⟨by rw[show us.take i++ (winN us i (j+2) ++us.drop (i+ (j+3)))=us from winPut_self];exact HUb.out,hWl,HIN3.out.2.1⟩);have HVg:=sF (∀W_,wb.grownBy W_ (some gu)→Kd.C (Kd.int .u32) W_ (some av) vs.length vs) (fun W_ hg=>(Kd.V_reads' (Kd.V_grown HVb.out hg (fun k hk e=>hk.2.1 (Option.some.inj e)))).2.2);have hca:=aM (Kd.V_reads' HVb.out).2.1;rw[EI.out.2,EI.out.1];rcases TG with ⟨o,t1,t2,t3,t4,t5⟩ | ⟨o,o2,t1,t2,t3,t6,t7,t8,t4,t9,t5⟩
         ·obtain⟨kt,ht⟩:=t1.rounds;rw[←hqn]at ht;have HT:=aM ht;have HQF:=sF (qv=((valN (winN us i (j+2)) / valN vs:Nat):Int)∧0≤qv∧qv< 4294967296) (⟨by rw[hqn,←t5],by rw[hqn];exact natU z1⟩);have HWn:=sF (u32s o∧o.length=j+2+1∧valN o=valN (winN us i (j+2)) % valN vs) (⟨t2,t3.trans hWl,t4⟩);clear ht t1 t2 t3 t4 t5 hqn z1 z2 z3 hWl;refine(nat_take.calls kt w.heap.size gu cu i (j+3) _ us (winN us i (j+2)) (some av) ca vs qv true o wb HW0.out HVg.out hca.out HT.out).mono ?_;rintro e w7 ⟨rfl,hwin,hg⟩;have HWin:=aM hwin;have HG7:=aM hg;clear hwin hg;have HOc:=sF (w7.ownsRow w.heap.size 87 1 (.slice (some ⟨go,0,none⟩) os.length co) os.length (encs (Value.int .u32) os)) (own_move HOb.out (fun k hk=>HG7.out.block k (HOb.out.lt k hk).2 (fun e=>HGN.out ((Option.some.inj e).symm.trans (own_blk hk).symm))));obtain⟨hs3,hs4⟩:=rowU_at HOc.out iz hge hiz;have HST:=aM (own_store_of HOc.out iz qv);have hvm:qv % 4294967296=qv:=Int.emod_eq_of_lt HQF.out.2.1 HQF.out.2.2;go_wp2_with fail
          go_roundg i
          case measure=>exact HI.out.2.1
          case rel=>
           have hst:=HST.out;have hDn:=div_step HVS.out.1 HVS.out.2.1 HX0.out.1 HD.out HIN.out HIN3.out.1 HWn.out.1 HWn.out.2.1 HWn.out.2.2;rw[←HQF.out.1]at hDn;rw[EI.out.1]at hst;rw[EI.out.1];exact⟨i,iy,winPut us o i (j+2),os.set i qv,by rw[hiy],⟨HIN3.out.2.2.2.2,Nat.le_refl _,Nat.le_of_lt HIN3.out.1⟩,⟨own_move HWin.out.own (fun k hk=>Below.heap_setCell _ _ _ k (fun e=>HGN.out ((own_blk hk).trans e)))⟩,⟨hst.1⟩,⟨Kd.V_far (p:=⟨go,i,none⟩) (Kd.V_grown HVb.out HG7.out (fun k hk e=>hk.2.1 (Option.some.inj e))) (fun k hk=>hk.2.2) _⟩,⟨Below.setCell (Below.grown HBb.out HG7.out HBb.out.size (fun k e=>(Option.some.inj e)▸(HUb.out.lt gu rfl).1)) (p:=⟨go,i,none⟩) (HOb.out.lt go rfl).1 _⟩,⟨hDn⟩⟩
         ·obtain⟨kt,ht⟩:=t1.rounds;obtain⟨kg,hg2⟩:=t6.rounds;rw[←hqn]at ht;have HT:=aM ht;have HT2:=aM hg2;obtain⟨qy,hqy⟩: ∃qy:Int,IntKind.u64.wrap (qv - 1)=qy:=⟨_,rfl⟩;have hqy':qy=((qn - 1:Nat):Int):=by rw[←hqy,hqn];exact predB t9 z1
          have HQF:=sF (qy=((valN (winN us i (j+2)) / valN vs:Nat):Int)∧0≤qy∧qy< 4294967296) (⟨by rw[hqy',t5],by rw[hqy'];exact natU (Nat.lt_of_le_of_lt (Nat.sub_le _ _) z1)⟩);have HWn:=sF (u32s o2∧o2.length=j+2+1∧valN o2=valN (winN us i (j+2)) % valN vs) (⟨t7,t8.trans hWl,t4⟩);clear ht hg2 t1 t2 t3 t4 t5 t6 t7 t8 t9 hqn z1 z2 z3 hWl hqy';refine(nat_take.calls kt w.heap.size gu cu i (j+3) _ us (winN us i (j+2)) (some av) ca vs qv false o wb HW0.out HVg.out hca.out HT.out).mono ?_;rintro e w6 ⟨rfl,hwin,hg⟩;have HWin0:=aM hwin;have HG6:=aM hg;clear hwin hg;go_wp2_with fail
          rw[EI.out.2,EI.out.1];refine(nat_give.calls kg w.heap.size gu cu i (j+3) _ us o (some av) ca vs o2 w6 HWin0.out (fun W_ hg=>HVg.out W_ (HG6.out.trans hg)) hca.out HT2.out).mono ?_;rintro e w7 ⟨rfl,hwin,hg⟩;have HWin:=aM hwin;have HG7:=aM (HG6.out.trans hg);clear hwin hg;have HOc:=sF (w7.ownsRow w.heap.size 87 1 (.slice (some ⟨go,0,none⟩) os.length co) os.length (encs (Value.int .u32) os)) (own_move HOb.out (fun k hk=>HG7.out.block k (HOb.out.lt k hk).2 (fun e=>HGN.out ((Option.some.inj e).symm.trans (own_blk hk).symm))));obtain⟨hs3,hs4⟩:=rowU_at HOc.out iz hge hiz;have HST:=aM (own_store_of HOc.out iz qy);have hvm:qy % 4294967296=qy:=Int.emod_eq_of_lt HQF.out.2.1 HQF.out.2.2;go_wp2_with fail
          go_roundg i
          case measure=>exact HI.out.2.1
          case rel=>
           have hst:=HST.out;have hDn:=div_step HVS.out.1 HVS.out.2.1 HX0.out.1 HD.out HIN.out HIN3.out.1 HWn.out.1 HWn.out.2.1 HWn.out.2.2;rw[←HQF.out.1]at hDn;rw[EI.out.1]at hst;rw[EI.out.1];exact⟨i,iy,winPut us o2 i (j+2),os.set i qy,by rw[hiy],⟨HIN3.out.2.2.2.2,Nat.le_refl _,Nat.le_of_lt HIN3.out.1⟩,⟨own_move HWin.out.own (fun k hk=>Below.heap_setCell _ _ _ k (fun e=>HGN.out ((own_blk hk).trans e)))⟩,⟨hst.1⟩,⟨Kd.V_far (p:=⟨go,i,none⟩) (Kd.V_grown HVb.out HG7.out (fun k hk e=>hk.2.1 (Option.some.inj e))) (fun k hk=>hk.2.2) _⟩,⟨Below.setCell (Below.grown HBb.out HG7.out HBb.out.size (fun k e=>(Option.some.inj e)▸(HUb.out.lt gu rfl).1)) (p:=⟨go,i,none⟩) (HOb.out.lt go rfl).1 _⟩,⟨hDn⟩⟩
        ·have cRb:decide (4294967296≤rn)=false:=decide_eq_false (by rw[hrn'];exact fun h=>cR (geB.1 h));have H6:=sF (qv=((q - 1:Nat):Int)∧rn=((r+dgt vs (j+1):Nat):Int)∧q - 1< 18446744073709551616∧r+dgt vs (j+1)< 4294967296∧two=(q - 1) * dgt vs (j+1) + (r+dgt vs (j+1))∧QQ≤q - 1∧q - 1< q) (⟨hq1,hrn',m3,Nat.lt_of_not_le cR,m4,m5,m6⟩);clear hq1 hrn' m1 m2 m3 m4 m5 m6 hdec cR cA x0 x1 x2 x3 x4 x5 e1 e2 h1 h2 h3 h5 h4 k7 k8 hmz' hsz' g2 f1 f2 d2 dv1 dv2;go_wp2_with fail
         go_quiet (fail)
         go_wp2_with fail
         go_roundg (q - 1)
         case measure=>exact Nat.lt_of_lt_of_le H6.out.2.2.2.2.2.2 HQ.out.2.2.1
         case rel=>exact⟨q - 1,r+dgt vs (j+1),qv,rn,rfl,rfl,⟨H6.out.1,H6.out.2.1,Nat.le_refl _,H6.out.2.2.1,H6.out.2.2.2.1,H6.out.2.2.2.2.1,H6.out.2.2.2.2.2.1⟩,_,rfl⟩
       ·have cBb:decide (sz< mz)=false:=decide_eq_false (by rw[hsz',hmz' hq32];exact fun h=>cB (lt_nat.1 h));clear hqd hrn;obtain⟨qv,hqe⟩: ∃qv:Int,qv=qz:=⟨_,rfl⟩;have FIN:=sF (∃qn:Nat,qv=(qn:Int)∧qn< 4294967296∧QQ≤qn∧qn * valN vs< valN (winN us i (j+2)) +valN vs) (⟨q,by rw[hqe];exact e1,hq32,h4,x5 q r h5 hq32 (Nat.le_of_not_lt cB)⟩);clear cA cB hq32 x0 x1 x2 x3 x4 x5 e1 e2 h1 h2 h3 h5 h4 k7 k8 hmz' hsz' g2 f1 f2 d2 dv1 dv2 HQ;subst hqe;go_wp2_with fail
        go_quiet (fail)
        go_wp2_with fail
        obtain⟨qn,hqn,z1,z2,z3⟩:=FIN.out;generalize hq_:World.drewN wa _=wb;have HUb:=sF (wb.ownsRow w.heap.size 87 1 (.slice (some ⟨gu,0,none⟩) us.length cu) us.length (encs (Value.int .u32) us)) (hq_▸own_move HUr2.out (fun _ _=>rfl));have HOb:=sF (wb.ownsRow w.heap.size 87 1 (.slice (some ⟨go,0,none⟩) os.length co) os.length (encs (Value.int .u32) os)) (hq_▸own_move HOr2.out (fun _ _=>rfl));have HVb:=sF (Kd.V (Kd.int .u32) 87 wb w.heap.size (fun k=>w.heap.size≤k∧k≠gu∧k≠go) (.slice (some av) vs.length ca) vs) (hq_▸Kd.V_drewN HVr2.out _);have HBb:=sF (Below w.heap.size w wb) (hq_▸pw_below_drewN HB2.out _);clear hq_ HUr2 HOr2 HVr2 HB2 kc2 kv1 kv2 FIN;have hWl:=win_len HIN.out;have TG:=take_good (win_u32 HD.out.uu i (j+2)) HVS.out.1 (by rw[hWl];exact HIN3.out.2.2.2.1) (by rw[hWl,HVS.out.2.1];exact Nat.lt_succ_self _) HX0.out.1 z1 (HQQ.out▸z2) z3;have HW0:=sF (WinU wb w.heap.size gu cu i (j+3) us (winN us i (j+2))) (⟨by rw[show us.take i++ (winN us i (j+2) ++us.drop (i+ (j+3)))=us from winPut_self];exact HUb.out,hWl,HIN3.out.2.1⟩);have HVg:=sF (∀W_,wb.grownBy W_ (some gu)→Kd.C (Kd.int .u32) W_ (some av) vs.length vs) (fun W_ hg=>(Kd.V_reads' (Kd.V_grown HVb.out hg (fun k hk e=>hk.2.1 (Option.some.inj e)))).2.2);have hca:=aM (Kd.V_reads' HVb.out).2.1;rw[EI.out.2,EI.out.1];rcases TG with ⟨o,t1,t2,t3,t4,t5⟩ | ⟨o,o2,t1,t2,t3,t6,t7,t8,t4,t9,t5⟩
        ·obtain⟨kt,ht⟩:=t1.rounds;rw[←hqn]at ht;have HT:=aM ht;have HQF:=sF (qv=((valN (winN us i (j+2)) / valN vs:Nat):Int)∧0≤qv∧qv< 4294967296) (⟨by rw[hqn,←t5],by rw[hqn];exact natU z1⟩);have HWn:=sF (u32s o∧o.length=j+2+1∧valN o=valN (winN us i (j+2)) % valN vs) (⟨t2,t3.trans hWl,t4⟩);clear ht t1 t2 t3 t4 t5 hqn z1 z2 z3 hWl;refine(nat_take.calls kt w.heap.size gu cu i (j+3) _ us (winN us i (j+2)) (some av) ca vs qv true o wb HW0.out HVg.out hca.out HT.out).mono ?_;rintro e w7 ⟨rfl,hwin,hg⟩;have HWin:=aM hwin;have HG7:=aM hg;clear hwin hg;have HOc:=sF (w7.ownsRow w.heap.size 87 1 (.slice (some ⟨go,0,none⟩) os.length co) os.length (encs (Value.int .u32) os)) (own_move HOb.out (fun k hk=>HG7.out.block k (HOb.out.lt k hk).2 (fun e=>HGN.out ((Option.some.inj e).symm.trans (own_blk hk).symm))));obtain⟨hs3,hs4⟩:=rowU_at HOc.out iz hge hiz;have HST:=aM (own_store_of HOc.out iz qv);have hvm:qv % 4294967296=qv:=Int.emod_eq_of_lt HQF.out.2.1 HQF.out.2.2;go_wp2_with fail
         go_roundg i
         case measure=>exact HI.out.2.1
         case rel=>
          have hst:=HST.out;have hDn:=div_step HVS.out.1 HVS.out.2.1 HX0.out.1 HD.out HIN.out HIN3.out.1 HWn.out.1 HWn.out.2.1 HWn.out.2.2;rw[←HQF.out.1]at hDn;rw[EI.out.1]at hst;rw[EI.out.1];exact⟨i,iy,winPut us o i (j+2),os.set i qv,by rw[hiy],⟨HIN3.out.2.2.2.2,Nat.le_refl _,Nat.le_of_lt HIN3.out.1⟩,⟨own_move HWin.out.own (fun k hk=>Below.heap_setCell _ _ _ k (fun e=>HGN.out ((own_blk hk).trans e)))⟩,⟨hst.1⟩,⟨Kd.V_far (p:=⟨go,i,none⟩) (Kd.V_grown HVb.out HG7.out (fun k hk e=>hk.2.1 (Option.some.inj e))) (fun k hk=>hk.2.2) _⟩,⟨Below.setCell (Below.grown HBb.out HG7.out HBb.out.size (fun k e=>(Option.some.inj e)▸(HUb.out.lt gu rfl).1)) (p:=⟨go,i,none⟩) (HOb.out.lt go rfl).1 _⟩,⟨hDn⟩⟩
        ·obtain⟨kt,ht⟩:=t1.rounds;obtain⟨kg,hg2⟩:=t6.rounds;rw[←hqn]at ht;have HT:=aM ht;have HT2:=aM hg2;obtain⟨qy,hqy⟩: ∃qy:Int,IntKind.u64.wrap (qv - 1)=qy:=⟨_,rfl⟩;have hqy':qy=((qn - 1:Nat):Int):=by rw[←hqy,hqn];exact predB t9 z1
         have HQF:=sF (qy=((valN (winN us i (j+2)) / valN vs:Nat):Int)∧0≤qy∧qy< 4294967296) (⟨by rw[hqy',t5],by rw[hqy'];exact natU (Nat.lt_of_le_of_lt (Nat.sub_le _ _) z1)⟩);have HWn:=sF (u32s o2∧o2.length=j+2+1∧valN o2=valN (winN us i (j+2)) % valN vs) (⟨t7,t8.trans hWl,t4⟩);clear ht hg2 t1 t2 t3 t4 t5 t6 t7 t8 t9 hqn z1 z2 z3 hWl hqy';refine(nat_take.calls kt w.heap.size gu cu i (j+3) _ us (winN us i (j+2)) (some av) ca vs qv false o wb HW0.out HVg.out hca.out HT.out).mono ?_;rintro e w6 ⟨rfl,hwin,hg⟩;have HWin0:=aM hwin;have HG6:=aM hg;clear hwin hg;go_wp2_with fail
         rw[EI.out.2,EI.out.1];refine(nat_give.calls kg w.heap.size gu cu i (j+3) _ us o (some av) ca vs o2 w6 HWin0.out (fun W_ hg=>HVg.out W_ (HG6.out.trans hg)) hca.out HT2.out).mono ?_;rintro e w7 ⟨rfl,hwin,hg⟩;have HWin:=aM hwin;have HG7:=aM (HG6.out.trans hg);clear hwin hg;have HOc:=sF (w7.ownsRow w.heap.size 87 1 (.slice (some ⟨go,0,none⟩) os.length co) os.length (encs (Value.int .u32) os)) (own_move HOb.out (fun k hk=>HG7.out.block k (HOb.out.lt k hk).2 (fun e=>HGN.out ((Option.some.inj e).symm.trans (own_blk hk).symm))));obtain⟨hs3,hs4⟩:=rowU_at HOc.out iz hge hiz;have HST:=aM (own_store_of HOc.out iz qy);have hvm:qy % 4294967296=qy:=Int.emod_eq_of_lt HQF.out.2.1 HQF.out.2.2;go_wp2_with fail
         go_roundg i
         case measure=>exact HI.out.2.1
         case rel=>
          have hst:=HST.out;have hDn:=div_step HVS.out.1 HVS.out.2.1 HX0.out.1 HD.out HIN.out HIN3.out.1 HWn.out.1 HWn.out.2.1 HWn.out.2.2;rw[←HQF.out.1]at hDn;rw[EI.out.1]at hst;rw[EI.out.1];exact⟨i,iy,winPut us o2 i (j+2),os.set i qy,by rw[hiy],⟨HIN3.out.2.2.2.2,Nat.le_refl _,Nat.le_of_lt HIN3.out.1⟩,⟨own_move HWin.out.own (fun k hk=>Below.heap_setCell _ _ _ k (fun e=>HGN.out ((own_blk hk).trans e)))⟩,⟨hst.1⟩,⟨Kd.V_far (p:=⟨go,i,none⟩) (Kd.V_grown HVb.out HG7.out (fun k hk e=>hk.2.1 (Option.some.inj e))) (fun k hk=>hk.2.2) _⟩,⟨Below.setCell (Below.grown HBb.out HG7.out HBb.out.size (fun k e=>(Option.some.inj e)▸(HUb.out.lt gu rfl).1)) (p:=⟨go,i,none⟩) (HOb.out.lt go rfl).1 _⟩,⟨hDn⟩⟩
end Go.Proofs.YtdiflpfkoigmaaaGreatDoor.PTapeCheap
