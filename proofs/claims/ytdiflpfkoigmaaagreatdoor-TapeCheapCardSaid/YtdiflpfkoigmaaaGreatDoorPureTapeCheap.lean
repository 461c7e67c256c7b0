/- What the program and the specification compute, without the program's code: the plain part of TapeCheap. -/
import Derived.Test.YtdiflpfkoigmaaaGreatDoorPTapeCheapx
namespace Go.Proofs.YtdiflpfkoigmaaaGreatDoor.Pure
open Go.RowKit Go.Proofs.YtdiflpfkoigmaaaGreatDoor.PTapeCheap Go.Proofs.YtdiflpfkoigmaaaGreatDoorW
set_option linter.unusedVariables false
set_option linter.unusedSimpArgs false
theorem val_split(x:List Int)(i:Nat):valN x=valN (x.take i) +4294967296 ^ i * valN (x.drop i):=by
 by_cases h:i≤x.length
 ·conv=>lhs;rw[←List.take_append_drop i x]
  rw[val_append,List.length_take,Nat.min_eq_left h]
 ·rw[List.drop_eq_nil_of_le (by omega),List.take_of_length_le (by omega)];simp[valN]
def nb(n:Nat):Nat:=if h:n=0 then 0 else nb (n / 2) +1
 termination_by n
 decreasing_by omega
theorem zas:nb 0=0:=by rw[nb];rfl
theorem nb_pos{n:Nat}(h:n≠0):nb n=nb (n / 2) +1:=by rw[nb,dif_neg h]
theorem nb_lt(n:Nat):n< 2 ^ nb n:=by
 induction n using Nat.strongRecOn with
 |_ n ih=>
  by_cases h:n=0
  ·subst h;rw[zas];decide
  ·have:=ih (n / 2) (by omega);rw[nb_pos h,Nat.pow_succ];omega
theorem nb_le{n k:Nat}(h:n< 2 ^ k):nb n≤k:=by
 induction k generalizing n with
 |zero=>
      have:n=0:=by simpa using h
      rw[this,zas];exact Nat.le_refl _
 |succ k ih=>
  by_cases h0:n=0
  ·rw[h0,zas];omega
  ·rw[nb_pos h0];rw[Nat.pow_succ]at h;have:=ih (n:=n / 2) (by omega);omega
theorem nb_ge{n k:Nat}(h:2 ^ k≤n):k< nb n:=by
 refine Nat.lt_of_not_le fun hk=>?_
 have h1:=nb_lt n
 have:2 ^ nb n≤2 ^ k:=Nat.pow_le_pow_right (by decide) hk
 omega
theorem pow32(i:Nat):(4294967296:Nat) ^ i=2 ^ (32 * i):=by rw[Nat.pow_mul]
theorem dgt_val{x:List Int}(h:u32s x)(j:Nat):dgt x j=valN x / 4294967296 ^ j % 4294967296:=by
 have h1:=val_take_lt h j
 have h2:=dgt_lt h j
 rw[val_split x j,val_drop,Nat.add_mul_div_left _ _ (by exact Nat.pow_pos (by decide)),Nat.div_eq_of_lt h1]
 omega
theorem nb_two(n k:Nat)(h:2 ^ k≤n)(h2:n< 2 ^ (k+1)):nb n=k+1:=Nat.le_antisymm (nb_le h2) (nb_ge h)
theorem nb_top{x:List Int}(h:canon x){k:Nat}(hk:x.length=k+1):nb (valN x)=32 * k+nb (dgt x k):=by
 have hx:x≠ [] :=by intro e;rw[e]at hk;simp at hk
 have e:=val_take_succ x k
 rw[val_take_len (by omega)]at e
 have h1:=val_take_lt h.1 k
 have hd:dgt x k≠0:=by
  intro h0;rw[h0]at e
  have:=val_ge h hk;omega
 have hn:=nb_lt (dgt x k)
 obtain⟨j,hj⟩: ∃j,nb (dgt x k)=j+1:=⟨nb (dgt x k / 2),nb_pos hd⟩
 have hlow:2 ^ j≤dgt x k:=by
  refine Nat.le_of_not_lt fun hl=>?_
  have:=nb_le hl;omega
 rw[hj]at hn ⊢
 rw[←Nat.add_assoc]
 apply nb_two
 ·rw[e,pow32,Nat.pow_add]
  exact Nat.le_trans (Nat.mul_le_mul_left _ hlow) (Nat.le_add_left _ _)
 ·rw[pow32]at e h1
  have h3:dgt x k+1≤2 ^ (j+1):=hn
  have h4:=Nat.mul_le_mul_left (2 ^ (32 * k)) h3
  rw[Nat.mul_add,Nat.mul_one]at h4
  rw[show 32 * k+j+1=32 * k+ (j+1)by omega,Nat.pow_add,e];omega
set_option maxHeartbeats 2000000 in
def exactR(neg:Bool)(n d:Nat):Int×Bool×List Int×List Int:=if n=0 then(0,false,[],[1])else(0,neg,digN (n / Nat.gcd n d),digN (d / Nat.gcd n d))
def boundR(r:Int×Bool×List Int×List Int):Int×Bool×List Int×List Int:=if 4096< nb (valN r.2.2.1)∨4096< nb (valN r.2.2.2)then(4,false,[],[])else r
def formV(x:List Int):Int:=if 512< x.length then 3 else if x≠ [] ∧x.getLast?.getD 1=0 then 5 else 0
def formL:List (List Int)→Int
 | [] =>0
 |x::l=>if formV x=0 then formL l else formV x
theorem natForm_l0(xs:List (List Int))(hs:xs.length< 4294967296)(hxs: ∀x∈xs,x.length< 4294967296): ∀d i,i+d=xs.length→Ev (fun k=>nat_form.l0 k xs xs.length i) (formL (xs.drop i)):=by
 intro d
 induction d with
 |zero=>
  intro i hi
  refine Ev.step (fun k=>by rw[nat_form.l0]) ?_
  refine Ev.no (by omega) (Ev.is ?_)
  rw[List.drop_eq_nil_of_le (by omega)];rfl
 |succ d ih=>
  intro i hi
  have hl:i< xs.length:=by omega
  have er:rd_L3 xs (i:Int)=xs[i] :=by show xs.getD i [] =_;simp[List.getD_eq_getElem?_getD,hl]
  have hx:=hxs xs[i] (List.getElem_mem hl)
  have ihn:=ih (i+1) (by omega)
  refine Ev.step (fun k=>by rw[nat_form.l0]) ?_
  rw[er,wnx i (by omega),List.drop_eq_getElem_cons hl,formL]
  generalize xs[i] =x at *
  refine Ev.yes (by omega) (Ev.yes (by omega) (Ev.yes (by omega) ?_))
  by_cases h1:512< x.length
  ·have e:formV x=3:=if_pos h1
   rw[e]
   exact Ev.yes (by omega) (Ev.now _)
  ·refine Ev.no (by omega) ?_
   by_cases h0:x.length=0
   ·have hn:x= [] :=List.length_eq_zero_iff.1 h0
    have e:formV x=0:=by unfold formV;rw[if_neg h1,if_neg (fun h=>h.1 hn)]
    rw[e,if_pos rfl]
    exact Ev.no (by omega) ihn
   ·have hn:x≠ [] :=fun e=>h0 (by rw[e];rfl)
    rw[wpx x.length (by omega) (by omega)]
    have e2:rd x ((x.length - 1:Nat):Int)=x.getLast?.getD 1:=by
     show x.getD (x.length - 1) 0=_
     rw[List.getLast?_eq_getElem?,List.getD_eq_getElem?_getD,List.getElem?_eq_getElem (by omega)];rfl
    rw[e2]
    refine Ev.yes (by omega) (Ev.yes (by omega) (Ev.yes (by omega) ?_))
    by_cases h2:x.getLast?.getD 1=0
    ·have e:formV x=5:=by unfold formV;rw[if_neg h1,if_pos ⟨hn,h2⟩]
     rw[e]
     exact Ev.yes h2 (Ev.now _)
    ·have e:formV x=0:=by unfold formV;rw[if_neg h1,if_neg (fun h=>h2 h.2)]
     rw[e,if_pos rfl]
     exact Ev.no h2 ihn
theorem natForm_f(xs:List (List Int))(hs:xs.length< 4294967296)(hxs: ∀x∈xs,x.length< 4294967296):Ev (fun k=>nat_form.f k xs) (formL xs):=by
 have:=natForm_l0 xs hs hxs xs.length 0 (by omega)
 rw[List.drop_zero]at this;exact this
theorem zah{x:List Int}(hx:canon x)(h:x.length≤512):formV x=0:=by
 unfold formV;rw[if_neg (by omega),if_neg]
 intro hc
 have:=hx.2 hc.1
 rw[List.getLast?_eq_some_getLast hc.1]at hc
 exact this hc.2
theorem canon_formV{x:List Int}(hu:u32s x)(h:formV x=0):canon x∧x.length≤512:=by
 unfold formV at h
 by_cases h1:512< x.length
 ·rw[if_pos h1]at h;omega
 ·rw[if_neg h1]at h
  refine⟨⟨hu,fun hn h0=>?_⟩,by omega⟩
  rw[if_pos ⟨hn,by rw[List.getLast?_eq_some_getLast hn];exact h0⟩]at h;omega
theorem two_digits(n:Nat)(h:n< 18446744073709551616):u32s [((n:Int)) % 4294967296,((n:Int) / 4294967296) % 4294967296] ∧valN [((n:Int)) % 4294967296,((n:Int) / 4294967296) % 4294967296] =n:=by
 refine⟨by rw[u32s_cons,u32s_cons];exact⟨by omega,by omega,u32s_nil⟩,?_⟩
 simp only[valN];omega
theorem natOf_f(n:Nat)(h:n< 18446744073709551616):Ev (fun k=>nat_Of.f k n) (digN n):=by
 unfold nat_Of.f
 obtain⟨h1,h2⟩:=two_digits n h
 have:=trim_f h1 (by simp)
 rw[h2]at this
 exact Ev.bind this (Ev.now _)
def zbj(neg:Bool)(n d:Nat):Int×Bool×List Int×List Int:=if d=0 then(11,false,[],[])else boundR (exactR neg n d)
def goodB(x:List Int):Bool:=decide (x.length≤128) && (x.isEmpty||decide (x.getLast?.getD 1≠0))
theorem zad{x:List Int}(hu:u32s x)(h:goodB x=true):canon x∧x.length≤128:=by
 unfold goodB at h
 rw[Bool.and_eq_true,decide_eq_true_iff,Bool.or_eq_true,decide_eq_true_iff]at h
 refine⟨⟨hu,fun hn h0=>?_⟩,h.1⟩
 rcases h.2 with h2|h2
 ·cases x with
  |nil=>exact hn rfl
  |cons a x=>simp at h2
 ·exact h2 (by rw[List.getLast?_eq_some_getLast hn];exact h0)
def zam(f:Int)(p:Bool)(x a:List Int):Bool:=
 if f=0 then goodB x && (goodB a && (!a.isEmpty && (!(p && x.isEmpty) && decide (Nat.gcd (valN x) (valN a)=1))))else(decide (f=4) ||decide (f=11)) && (!p && (x.isEmpty && a.isEmpty))
theorem one_digit(g:Nat)(hg:0< g):(if((digN g).length:Int)=1 then(if 0< ((digN g).length:Int)then(some ((rd (digN g) 0)==1))else(none))else(some false))=some (decide (g=1)):=by
 by_cases h1:(digN g).length=1
 ·rw[if_pos (by omega),if_pos (by omega)]
  have hlt:g< 4294967296:=by
   have:=val_lt (u32s_digN g)
   rw[val_digN,h1,Nat.pow_one]at this;exact this
  have e1:rd (digN g) 0=((dgt (digN g) 0:Nat):Int):=rd_dgt (u32s_digN g) 0
  have e2:=dgt_val (u32s_digN g) 0
  rw[val_digN,Nat.pow_zero,Nat.div_one,Nat.mod_eq_of_lt hlt]at e2
  rw[e1,e2];congr 1;rw[Bool.eq_iff_iff,beq_iff_eq,decide_eq_true_iff];omega
 ·rw[if_neg (by omega)];congr 1
  symm;apply decide_eq_false;intro h
  apply h1;rw[h,digN_pos (by decide)];simp[digN_zero]
theorem natDiv_is{x y:List Int}(hx:canon x)(hy:canon y)(h0:y≠ [])(hs:x.length< 4294960000):nat_div.f x y=some (digN (valN x / valN y),digN (valN x % valN y)):=by
 unfold nat_div.f
 rw[if_pos]
 simp only[Bool.and_eq_true,decide_eq_true_eq,canonB_iff]
 exact⟨⟨⟨hx,hy⟩,fun h=>h0 (List.length_eq_zero_iff.1 h)⟩,hs⟩
theorem zai{n:Nat}{x:List Int}(hx:u32s x)(h:n≤valN x):(digN n).length≤x.length:=len_digN_le (Nat.lt_of_le_of_lt h (val_lt hx))
theorem natGcd_l0: ∀ (Y X:Nat) (x y:List Int),canon x→canon y→valN x=X→valN y=Y→x.length< 4294960000→y.length< 4294960000→Ev (fun k=>nat_gcd.l0 k x y) (digN (Nat.gcd X Y)):=by
 intro Y
 induction Y using Nat.strongRecOn with
 |_ Y ih=>
  intro X x y hx hy ex ey hs hys
  refine Ev.step (fun k=>by rw[nat_gcd.l0]) ?_
  by_cases h0:y= []
  ·subst h0
   have e:Y=0:=ey.symm
   subst e
   refine Ev.no (by simp) ?_
   rw[Nat.gcd_zero_right,←ex,digN_val hx]
   exact Ev.bind (Ev.con (show slices_Clone_uint32_uint32.f x=some x from if_pos (by omega))) (Ev.now _)
  ·have hp:=val_pos hy h0
   have hl:0< y.length:=Nat.pos_of_ne_zero fun h=>h0 (List.length_eq_zero_iff.1 h)
   refine Ev.yes (by omega) (Ev.bind (Ev.con (natDiv_is hx hy h0 hs)) ?_)
   have hm:=Nat.mod_lt X (show Y >0 by omega)
   rw[ex,ey]
   have e:Nat.gcd X Y=Nat.gcd Y (X % Y):=by rw[Nat.gcd_comm X Y,Nat.gcd_rec Y X,Nat.gcd_comm]
   rw[e]
   have hl2:=zai hy.1 (show X % Y≤valN y by omega)
   exact ih (X % Y) hm Y y (digN (X % Y)) hy (canon_digN _) ey (val_digN _) hys (by omega)
theorem natGcd_f{x y:List Int}(hx:canon x)(hy:canon y)(hs:x.length< 4294960000)(hys:y.length< 4294960000):Ev (fun k=>nat_gcd.f k x y) (digN (Nat.gcd (valN x) (valN y))):=natGcd_l0 _ _ x y hx hy rfl rfl hs hys
theorem form2{x y:List Int}(hx:canon x)(hy:canon y)(hs:x.length≤512)(hys:y.length≤512):Ev (fun k=>nat_form.f k ([x,y] :List (List Int))) 0:=by
 have:=natForm_f [x,y] (by simp) (by intro z hz;simp at hz;rcases hz with rfl|rfl<;>omega)
 rw[formL,zah hx hs,if_pos rfl,formL,zah hy hys,if_pos rfl,formL]at this
 exact this
theorem natGcdE_f{x y:List Int}(hx:canon x)(hy:canon y)(hs:x.length≤512)(hys:y.length≤512):Ev (fun k=>nat_Gcd.f k x y) (digN (Nat.gcd (valN x) (valN y)),0):=by
 unfold nat_Gcd.f
 exact Ev.bind (form2 hx hy hs hys) (Ev.yes rfl (Ev.bind (natGcd_f hx hy (by omega) (by omega)) (Ev.now _)))
theorem natDivE_f{x y:List Int}(hx:canon x)(hy:canon y)(h0:y≠ [])(hs:x.length≤512)(hys:y.length≤512):Ev (fun k=>nat_Div.f k x y) (digN (valN x / valN y),digN (valN x % valN y),0):=by
 unfold nat_Div.f
 have hl:0< y.length:=Nat.pos_of_ne_zero fun h=>h0 (List.length_eq_zero_iff.1 h)
 exact Ev.bind (form2 hx hy hs hys) (Ev.yes rfl (Ev.no (by omega) (Ev.bind (Ev.con (natDiv_is hx hy h0 (by omega))) (Ev.now _))))
theorem bitLen_nb: ∀ (f x:Nat),x< 2 ^ f→f≤64→Lib.bitLen x=nb x
  |0,x,h,_=>by
                     have e:x=0:=by simpa using h
                     subst e;rw[zas];rfl
  |f+1,x,h,hf=>by
    by_cases h0:x=0
    · subst h0;rw[zas];rfl
    · have h64:x< 2 ^ 64:=Nat.lt_of_lt_of_le h (Nat.pow_le_pow_right (by decide) hf)
      rw[Lib.bitLen_half x h0 h64,nb_pos h0,bitLen_nb f (x / 2) (by rw[Nat.pow_succ]at h;omega) (by omega)]
      omega
theorem nb_shift(k:Nat): ∀ (d r:Nat),d≠0→r< 2 ^ k→nb (r+2 ^ k * d)=k+nb d:=by
 induction k with
 |zero=>
      intro d r hd hr;have:r=0:=by simpa using hr
      subst this;simp
 |succ k ih=>
  intro d r hd hr
  have hp:0< 2 ^ k * d:=Nat.mul_pos (Nat.pow_pos (by decide)) (Nat.pos_of_ne_zero hd)
  rw[Nat.pow_succ]at hr
  have e:r+2 ^ (k+1) * d=r+2 * (2 ^ k * d):=by rw[Nat.pow_succ,Nat.mul_comm (2 ^ k) 2,Nat.mul_assoc]
  rw[e,nb_pos (by omega),show(r+2 * (2 ^ k * d)) / 2=r / 2+2 ^ k * d by omega,ih d (r / 2) hd (by omega)]
  omega
theorem nbTop{x:List Int}(hx:canon x){n:Nat}(hn:x.length=n+1):nb (valN x)=32 * n+nb (dgt x n):=by
 have hd:dgt x n≠0:=by
  intro e
  have h1:=val_top x hn
  have h2:valN (x.take n)< 4294967296 ^ n:=val_take_lt hx.1 n
  have h3:=val_ge hx hn
  rw[e,Nat.mul_zero]at h1;omega
 have h1:=val_top x hn
 have hB:(4294967296:Nat) ^ n=2 ^ (32 * n):=by rw[Nat.pow_mul]
 rw[h1,hB]
 exact nb_shift _ _ _ hd (by rw[←hB];exact val_take_lt hx.1 n)
theorem natSize_f{x:List Int}(hx:canon x)(hs:x.length≤512):nat_size.f x=some ((nb (valN x):Nat):Int):=by
 unfold nat_size.f
 by_cases h0:x.length=0
 ·have e:x= [] :=List.length_eq_zero_iff.1 h0
  subst e
  rw[show valN [] =0 from rfl,zas];rfl
 ·obtain⟨n,hn⟩: ∃n,x.length=n+1:=⟨x.length - 1,by omega⟩
  have e:wrap64 ((x.length:Int) - 1)=((n:Nat):Int):=by rw[w64 _ (by omega)];omega
  have hd:=dgt_lt hx.1 n
  rw[if_neg (by omega),e,if_pos (by omega),if_pos (by omega),rd_dgt hx.1]
  have hb:bits_Len32.f ((dgt x n:Nat):Int)=some ((nb (dgt x n):Nat):Int):=by
   unfold bits_Len32.f
   rw[if_pos (by omega),if_pos (by omega),Int.toNat_natCast,bitLen_nb 32 _ hd (by decide)]
  have hle:nb (dgt x n)≤32:=nb_le hd
  rw[hb,Option.bind_some,nbTop hx hn]
  have e1:wrap64 (32 * ((n:Nat):Int))=((32 * n:Nat):Int):=by rw[w64 _ (by omega)];omega
  rw[e1,w64 _ (by omega)]
  exact congrArg some (by omega)
theorem form1{x:List Int}(hl:x.length< 4294967296):Ev (fun k=>nat_form.f k ([x] :List (List Int))) (formV x):=by
 have:=natForm_f [x] (by simp) (by intro z hz;simp at hz;subst hz;exact hl)
 rw[formL]at this
 by_cases h:formV x=0
 ·rw[if_pos h,formL]at this;rw[h];exact this
 ·rw[if_neg h]at this;exact this
theorem long_f{x:List Int}(hx:canon x)(hs:x.length≤512):Ev (fun k=>frac_long.f k x) (decide (4096< nb (valN x))):=by
 unfold frac_long.f nat_Bits.f
 have h1:=form1 (x:=x) (by omega)
 rw[zah hx hs]at h1
 refine Ev.bind (Ev.bind h1 (Ev.yes rfl (Ev.bind (Ev.con (natSize_f hx hs)) (Ev.now _)))) (Ev.yes rfl (Ev.is ?_))
 congr 1
 exact propext (by constructor<;>intro h<;>omega)
theorem boundR_digN(f:Int)(p:Bool)(a b:Nat):boundR (f,p,digN a,digN b)=if 4096< nb a∨4096< nb b then(4,false,[],[])else(f,p,digN a,digN b):=by
 unfold boundR
 rw[val_digN,val_digN]
theorem quotient_f{neg:Bool}{x y:List Int}(hx:canon x)(hy:canon y)(hs:x.length≤512)(hys:y.length≤512):Ev (fun k=>frac_quotient.f k neg x y) (zbj neg (valN x) (valN y)):=by
 unfold frac_quotient.f zbj
 by_cases h0:y.length=0
 ·have e:y= [] :=List.length_eq_zero_iff.1 h0
  subst e
  rw[if_pos (show valN [] =0 from rfl)]
  exact Ev.yes rfl (Ev.now _)
 ·have hy0:y≠ [] :=fun e=>h0 (by rw[e];rfl)
  have hp:=val_pos hy hy0
  rw[if_neg (by omega)]
  have hg:0< Nat.gcd (valN x) (valN y):=Nat.gcd_pos_of_pos_right _ hp
  have hgl:=zai hy.1 (Nat.le_of_dvd hp (Nat.gcd_dvd_right (valN x) (valN y)))
  have hgn:digN (Nat.gcd (valN x) (valN y))≠ [] :=fun e=>by rw[digN_nil]at e;omega
  refine Ev.no (by omega) (Ev.bind (natGcdE_f hx hy hs hys) (Ev.bind (Ev.con (show frac_natural.f _ _=some _ from rfl)) (Ev.bind (natDivE_f hx (canon_digN _) hgn hs (Nat.le_trans hgl hys)) (Ev.bind (natDivE_f hy (canon_digN _) hgn hys (Nat.le_trans hgl hys)) ?_))))
  rw[val_digN]
  have l1:=zai hx.1 (Nat.div_le_self (valN x) (Nat.gcd (valN x) (valN y)))
  have l2:=zai hy.1 (Nat.div_le_self (valN y) (Nat.gcd (valN x) (valN y)))
  have hex:exactR neg (valN x) (valN y)=(0,neg && decide (valN x / Nat.gcd (valN x) (valN y)≠0),digN (valN x / Nat.gcd (valN x) (valN y)),digN (valN y / Nat.gcd (valN x) (valN y))):=by
   unfold exactR
   by_cases hx0:valN x=0
   ·rw[if_pos hx0,hx0,Nat.gcd_zero_left,Nat.zero_div,digN_zero,Nat.div_self hp,digN_pos (by decide)]
    simp[digN_zero]
   ·have:valN x / Nat.gcd (valN x) (valN y)≠0:=fun e=>by
     have h1:=Nat.div_add_mod (valN x) (Nat.gcd (valN x) (valN y))
     rw[e,Nat.mul_zero,Nat.mod_eq_zero_of_dvd (Nat.gcd_dvd_left _ _)]at h1
     omega
    rw[if_neg hx0,decide_eq_true this,Bool.and_true]
  rw[hex,boundR_digN]
  generalize hA:valN x / Nat.gcd (valN x) (valN y)=A at *
  generalize hB:valN y / Nat.gcd (valN x) (valN y)=B at *
  refine Ev.bind (long_f (canon_digN _) (Nat.le_trans l1 hs)) ?_
  rw[val_digN]
  by_cases c1:4096< nb A
  ·rw[if_pos (show 4096< nb A∨4096< nb B from Or.inl c1)]
   exact Ev.yes (decide_eq_true c1) (Ev.bind (Ev.con (show frac_fault.f 4=some (4,false,[],[])from rfl)) (Ev.now _))
  ·refine Ev.no (fun h=>c1 (of_decide_eq_true h)) (Ev.bind (long_f (canon_digN _) (Nat.le_trans l2 hys)) ?_)
   rw[val_digN]
   by_cases c2:4096< nb B
   ·rw[if_pos (show 4096< nb A∨4096< nb B from Or.inr c2)]
    exact Ev.yes (decide_eq_true c2) (Ev.bind (Ev.con (show frac_fault.f 4=some (4,false,[],[])from rfl)) (Ev.now _))
   ·rw[if_neg (show¬ (4096< nb A∨4096< nb B)from fun h=>h.elim c1 c2)]
    refine Ev.no (fun h=>c2 (of_decide_eq_true h)) ?_
    have hlen:decide ((((digN A).length:Nat):Int) >0)=decide (A≠0):=by
     congr 1
     refine propext ⟨fun h e=>?_,fun h=>?_⟩
     ·rw[e,digN_zero]at h;simp at h
     ·have:digN A≠ [] :=fun e=>h (digN_nil.1 e)
      have:=List.length_pos_iff.2 this
      omega
    cases neg with
    |true=>exact Ev.yes rfl (Ev.is (by simp only[hlen,Bool.true_and]))
    |false=>exact Ev.no (by decide) (Ev.is (by simp only[Bool.false_and]))
def fB(x:List Int):Bool:=canonB x && decide (x.length≤512)
theorem fB_iff{x:List Int} :fB x=true↔canon x∧x.length≤512:=by unfold fB;rw[Bool.and_eq_true,canonB_iff,decide_eq_true_iff]
theorem form_dec{x:List Int}(hx:u32s x)(hl:x.length< 4294967296):Ev (fun k=>nat_IsNat.f k x) (fB x):=by
 unfold nat_IsNat.f
 refine Ev.bind (form1 hl) (Ev.is ?_)
 rw[Bool.eq_iff_iff,beq_iff_eq,fB_iff]
 exact⟨fun h=>canon_formV hx h,fun h=>zah h.1 h.2⟩
theorem pow_split(a b:Nat)(h:b=32 * a):(2:Nat) ^ b=4294967296 ^ a:=by
 subst h
 rw[Nat.pow_mul]
theorem zat{x:List Int}(hx:canon x):nb (valN x)≤4096↔x.length≤128:=by
 constructor
 ·intro h
  refine Nat.le_of_not_lt fun hl=>?_
  obtain⟨n,hn⟩: ∃n,x.length=n+1:=⟨x.length - 1,by omega⟩
  have h1:=nb_top hx hn
  have hp:0< nb (dgt x n):=by
   refine Nat.pos_of_ne_zero fun e=>?_
   have h2:=nb_lt (dgt x n)
   rw[e,Nat.pow_zero]at h2
   have h3:=val_top x hn
   have h4:valN (x.take n)< 4294967296 ^ n:=val_take_lt hx.1 n
   have h5:=val_ge hx hn
   rw[show dgt x n=0 by omega,Nat.mul_zero]at h3
   omega
  omega
 ·intro h
  refine nb_le ?_
  have h1:=val_lt hx.1
  have h2:(4294967296:Nat) ^ x.length≤4294967296 ^ 128:=Nat.pow_le_pow_right (by decide) h
  rw[pow_split 128 4096 rfl]
  omega
theorem good_iff{x:List Int}(hx:u32s x):goodB x=true↔canon x∧x.length≤128:=by
 refine⟨zad hx,fun h=>?_⟩
 unfold goodB
 rw[Bool.and_eq_true,decide_eq_true_iff,Bool.or_eq_true,decide_eq_true_iff]
 refine⟨h.2,?_⟩
 by_cases hn:x= []
 ·exact .inl (by rw[hn];rfl)
 ·exact .inr (by rw[List.getLast?_eq_some_getLast hn];exact h.1.2 hn)
theorem progIsRat_f{f:Int}{p:Bool}{x a:List Int}(hx:u32s x)(ha:u32s a)(lx:x.length< 4294967296)(la:a.length< 4294967296)(hw:f≠0→x.length+a.length< 9223372036854775808):Ev (fun k=>frac_IsRat.f k f p x a) (zam f p x a):=by
 unfold frac_IsRat.f zam
 have emp: ∀z:List Int,((z.length:Int)=0)↔z.isEmpty=true:=by intro z;cases z<;>simp;omega
 by_cases h0:f=0
 ·rw[if_pos h0]
  refine Ev.yes h0 (Ev.bind (form_dec hx lx) ?_)
  by_cases c1:canon x∧x.length≤512
  ·refine Ev.yes (fB_iff.2 c1) (Ev.bind (form_dec ha la) ?_)
   by_cases c2:canon a∧a.length≤512
   ·refine Ev.yes (fB_iff.2 c2) (Ev.bind (long_f c1.1 c1.2) ?_)
    by_cases g1:goodB x=true
    ·have l1:=(zat c1.1).2 (zad hx g1).2
     refine Ev.no (fun h=>by have:=of_decide_eq_true h;omega) (Ev.bind (long_f c2.1 c2.2) ?_)
     rw[g1,Bool.true_and]
     by_cases g2:goodB a=true
     ·have l2:=(zat c2.1).2 (zad ha g2).2
      refine Ev.no (fun h=>by have:=of_decide_eq_true h;omega) ?_
      rw[g2,Bool.true_and]
      cases e1:a.isEmpty with
      |true=>exact Ev.yes ((emp a).2 e1) (Ev.now _)
      |false=>
       refine Ev.no (fun h=>by rw[(emp a).1 h]at e1;exact absurd e1 (by decide)) ?_
       have hpa:=val_pos c2.1 (fun e=>by rw[e]at e1;simp at e1)
       have hg:=natGcdE_f c1.1 c2.1 c1.2 c2.2
       have one:=one_digit (Nat.gcd (valN x) (valN a)) (Nat.gcd_pos_of_pos_right _ hpa)
       cases p with
       |true=>
        refine Ev.yes rfl ?_
        cases e2:x.isEmpty with
        |true=>exact Ev.yes ((emp x).2 e2) (Ev.now _)
        |false=>exact Ev.no (fun h=>by rw[(emp x).1 h]at e2;exact absurd e2 (by decide)) (Ev.bind hg (Ev.con one))
       |false=>exact Ev.no (by decide) (Ev.bind hg (Ev.con one))
     ·refine Ev.yes (decide_eq_true (Nat.lt_of_not_le fun h=>g2 ((good_iff ha).2 ⟨c2.1,(zat c2.1).1 h⟩))) ?_
      rw[Bool.eq_false_iff.2 g2];exact Ev.now _
    ·refine Ev.yes (decide_eq_true (Nat.lt_of_not_le fun h=>g1 ((good_iff hx).2 ⟨c1.1,(zat c1.1).1 h⟩))) ?_
     rw[Bool.eq_false_iff.2 g1];exact Ev.now _
   ·refine Ev.no (fun h=>c2 (fB_iff.1 h)) ?_
    have g2:goodB a=false:=Bool.eq_false_iff.2 fun h=>c2 ⟨(zad ha h).1,by have:=(zad ha h).2;omega⟩
    rw[g2,Bool.false_and,Bool.and_false];exact Ev.now _
  ·refine Ev.no (fun h=>c1 (fB_iff.1 h)) ?_
   have g1:goodB x=false:=Bool.eq_false_iff.2 fun h=>c1 ⟨(zad hx h).1,by have:=(zad hx h).2;omega⟩
   rw[g1,Bool.false_and];exact Ev.now _
 ·rw[if_neg h0]
  have hw:=hw h0
  have ew:wrap64 ((x.length:Int) + (a.length:Int))=(x.length:Int) + (a.length:Int):=w64 _ (by omega)
  have hfl:frac_isFault.f f=some (decide (f=4) ||decide (f=11)):=by
   unfold frac_isFault.f
   by_cases h4:f=4
   ·rw[if_pos h4,decide_eq_true h4];rfl
   ·rw[if_neg h4,decide_eq_false h4,Bool.false_or];congr 1
  refine Ev.no h0 (Ev.bind (Ev.con hfl) ?_)
  cases hb:(decide (f=4) ||decide (f=11))with
  |false=>exact Ev.no (by decide) (Ev.now _)
  |true=>
   refine Ev.yes rfl ?_
   cases p with
   |true=>exact Ev.yes rfl (Ev.now _)
   |false=>
    refine Ev.no (by decide) (Ev.is ?_)
    rw[ew]
    congr 1
    rw[Bool.eq_iff_iff,beq_iff_eq]
    cases x<;>cases a<;>simp<;>omega
def hasA(f:Int):Bool:=decide (3≤f) && decide (f≤7)
def hasB(f:Int):Bool:=decide (3≤f) && decide (f≤6)
def zbr(i:Nat)(s:S81):Prop:=(1≤s.f0∧s.f0< 8)∧(hasA s.f0=true→0≤s.f1∧s.f1< (i:Int))∧(hasB s.f0=true→0≤s.f2∧s.f2< (i:Int))
def zaj:Nat→List S81→Prop
 |_,[] =>True
 |i,s::ss=>zbr i s∧zaj (i+1) ss
section
variable {N n i:Nat} {done:List (List Int)} {on:Nat→List Bool}
theorem kind_A{f:Int}(h:1≤f∧f< 8):kindA f.toNat=hasA f:=by unfold kindA hasA;congr 1<;>(apply decide_eq_decide.2;omega)
theorem kind_B{f:Int}(h:1≤f∧f< 8):kindB f.toNat=hasB f:=by unfold kindB hasB;congr 1<;>(apply decide_eq_decide.2;omega)
end
theorem zbh: ∀ (ss:List S81) (i j:Nat) (h:j< ss.length),zaj i ss→zbr (i+j) ss[j]
 | [],_,j,h,_=>absurd h (by simp)
 |s::ss,i,0,_,hs=>hs.1
 |s::ss,i,j+1,h,hs=>by
  have:=zbh ss (i+1) j (by simpa using h) hs.2
  rw[show i+ (j+1)=i+1+j from by omega]
  exact this
section
variable {ss:List S81} {os:List Int} {n:Nat}
end
section
variable {ss:List S81} {os:List Int} {n:Nat}
end
def u32R(x:S59):Prop:=u32s x.f2∧u32s x.f3∧x.f2.length< 1000000∧x.f3.length< 1000000
def zeroB(f:Int)(p:Bool)(x y:List Int):Bool:=(f==0) && (!p && (x.isEmpty && y.isEmpty))
def badF(f a b:Int)(inp:Bool):Bool:=(inp !=(f==1)) || (!hasA f && (a !=0)) || (!hasB f && (b !=0))
def formB(s:S81)(inp:Bool):Bool:=
 if 1≤s.f0∧s.f0< 8 then(if badF s.f0 s.f1 s.f2 inp=true then false else if s.f0=2 then(zam s.f3.f0 s.f3.f1 s.f3.f2 s.f3.f3 && (s.f3.f0==0))else zeroB s.f3.f0 s.f3.f1 s.f3.f2 s.f3.f3)else false
theorem formed_f{s:S81}(h:u32R s.f3)(inp:Bool):Ev (fun k=>trace_formed.f k s.f0 s.f1 s.f2 s.f3.f0 s.f3.f1 s.f3.f2 s.f3.f3 inp) (formB s inp):=by
 unfold trace_formed.f formB
 by_cases hk:1≤s.f0∧s.f0< 8
 ·rw[if_pos hk]
  refine Ev.yes hk ?_
  rw[kind_A hk,kind_B hk]
  change Ev (fun k=>if badF s.f0 s.f1 s.f2 inp=true then some false else _) _
  cases hb:badF s.f0 s.f1 s.f2 inp with
  |true=>exact Ev.yes rfl (Ev.is rfl)
  |false=>
   refine Ev.no (by decide) ?_
   rw[if_neg (by decide)]
   by_cases h2:s.f0=2
   ·rw[if_pos h2]
    refine Ev.yes (by rw[h2];rfl) (Ev.bind (progIsRat_f h.1 h.2.1 (by have:=h.2.2.1;omega) (by have:=h.2.2.2;omega) (fun _=>by have:=h.2.2.1;have:=h.2.2.2;omega)) (Ev.is rfl))
   ·rw[if_neg h2]
    refine Ev.no (by unfold kindN;simp;omega) (Ev.is ?_)
    unfold zeroB
    congr 2
    have h3:=h.2.2.1
    have h4:=h.2.2.2
    have e:wrap64 ((s.f3.f2.length:Int) + (s.f3.f3.length:Int))=((s.f3.f2.length+s.f3.f3.length:Nat):Int):=by unfold wrap64;omega
    rw[e]
    cases s.f3.f2<;>cases s.f3.f3<;>simp<;>omega
 ·rw[if_neg hk]
  exact Ev.no hk (Ev.is rfl)
def zab(i:Nat)(s:S81):Bool:=hasA s.f0 && outOf (i:Int) s.f1||hasB s.f0 && outOf (i:Int) s.f2
def errL(n:Int):List S81→Nat→Int
 | [],_=>0
 |s::ss,i=>if formB s (decide ((i:Int)< n))=true then(if zab i s=true then 6 else errL n ss (i+1))else 5
theorem zan{s:S81}{inp:Bool}(h:formB s inp=true):1≤s.f0∧s.f0< 8:=by
 by_cases hk:1≤s.f0∧s.f0< 8
 ·exact hk
 ·unfold formB at h
  rw[if_neg hk]at h
  cases h
theorem progL_f{n:Int} : ∀ (ss:List S81) (i:Nat),(∀s∈ss,u32R s.f3)→Ev (fun k=>trace_CheckL k n ss i) (errL n ss i)
 | [],i,_=>Ev.is rfl
 |s::ss,i,h=>by
  refine Ev.congr (fun K=>by rw[trace_CheckL]) (Ev.bind (formed_f (h s (List.mem_cons_self ..)) _) ?_)
  rw[errL]
  cases hf:formB s (decide ((i:Int)< n))with
  |false=>exact Ev.no (by decide) (Ev.is rfl)
  |true=>
   rw[if_pos rfl]
   have hk:=zan hf
   have hps:trace_parts.f s.f0 s.f1 s.f2=some (if hasB s.f0=true then[s.f1,s.f2]else if hasA s.f0=true then[s.f1]else[]):=by
    unfold trace_parts.f
    rw[if_pos (by omega),kind_A hk,kind_B hk]
   have hAB:hasB s.f0=true→hasA s.f0=true:=by unfold hasA hasB;simp;omega
   have hany:(if hasB s.f0=true then[s.f1,s.f2]else if hasA s.f0=true then[s.f1]else[]).any (outOf (i:Int))=zab i s:=by
    unfold zab
    cases hb:hasB s.f0 with
    |true=>rw[hAB hb];simp
    |false=>cases hasA s.f0<;>simp
   refine Ev.yes rfl (Ev.bind (Ev.con hps) ?_)
   rw[hany]
   cases zab i s with
   |true=>exact Ev.yes rfl (Ev.is rfl)
   |false=>exact Ev.no (by decide) (progL_f ss (i+1) (fun x hx=>h x (List.mem_cons_of_mem _ hx)))
def errT(n:Int)(ss:List S81)(os:List Int):Int:=
 if(ss.length:Int) >262144 then 3 else if(os.length:Int) >32768 then 3 else if n< 0 then 2 else if n >(ss.length:Int)then 2
 else if errL n ss 0=0 then(if os.any (outOf (ss.length:Int))=true then 6 else 0)else errL n ss 0
theorem errT_tail{n:Int}{ss:List S81}{os:List Int}{g:Nat→Option Int}(h:Ev g (errL n ss 0)):Ev (fun k=>if(ss.length:Int) >262144 then some 3 else if(os.length:Int) >32768 then some 3 else if n< 0 then some 2 else if n >(ss.length:Int)then some 2
  else(g k).bind fun e=>if e=0 then(if os.any (outOf (ss.length:Int))=true then some 6 else some 0)else some e) (errT n ss os):=by
 unfold errT
 by_cases h1:(ss.length:Int) >262144
 ·rw[if_pos h1];exact Ev.yes h1 (Ev.is rfl)
 ·rw[if_neg h1]
  refine Ev.no h1 ?_
  by_cases h2:(os.length:Int) >32768
  ·rw[if_pos h2];exact Ev.yes h2 (Ev.is rfl)
  ·rw[if_neg h2]
   refine Ev.no h2 ?_
   by_cases h3:n< 0
   ·rw[if_pos h3];exact Ev.yes h3 (Ev.is rfl)
   ·rw[if_neg h3]
    refine Ev.no h3 ?_
    by_cases h4:n >(ss.length:Int)
    ·rw[if_pos h4];exact Ev.yes h4 (Ev.is rfl)
    ·rw[if_neg h4]
     refine Ev.no h4 (Ev.bind h ?_)
     by_cases h5:errL n ss 0=0
     ·simp only[if_pos h5]
      cases os.any (outOf (ss.length:Int))with
      |true=>exact Ev.con rfl
      |false=>exact Ev.con rfl
     ·simp only[if_neg h5]
      exact Ev.is rfl
theorem zae{n:Int}{ss:List S81}{os:List Int}(h: ∀s∈ss,u32R s.f3):Ev (fun k=>trace_Check.f k n ss os) (errT n ss os):=errT_tail (progL_f ss 0 h)
theorem zax{n x:Int}(h:outOf n x=false):0≤x∧x< n:=by
 unfold outOf at h
 rw[Bool.or_eq_false_iff]at h
 have h1:=of_decide_eq_false h.1
 have h2:=of_decide_eq_false h.2
 omega
theorem errL_ok{n:Int} : ∀ (ss:List S81) (i:Nat),errL n ss i=0→zaj i ss
 | [],_,_=>trivial
 |s::ss,i,h=>by
  rw[errL]at h
  cases hf:formB s (decide ((i:Int)< n))with
  |false=>rw[hf,if_neg (by decide)]at h;cases h
  |true=>
   rw[hf,if_pos rfl]at h
   cases hb:zab i s with
   |true=>rw[hb,if_pos rfl]at h;cases h
   |false=>
    rw[hb,if_neg (by decide)]at h
    refine⟨⟨zan hf,fun ha=>?_,fun hB=>?_⟩,errL_ok ss (i+1) h⟩
    ·unfold zab at hb
     rw[ha,Bool.true_and,Bool.or_eq_false_iff]at hb
     exact zax hb.1
    ·unfold zab at hb
     rw[hB,Bool.true_and,Bool.or_eq_false_iff]at hb
     exact zax hb.2
theorem zbd{n:Int}{ss:List S81}{os:List Int}(h:errT n ss os=0):0≤n∧n≤(ss.length:Int)∧zaj 0 ss∧ ∀o∈os,0≤o∧o< (ss.length:Int):=by
 unfold errT at h
 split at h
 ·cases h
 ·split at h
  ·cases h
  ·split at h
   ·cases h
   ·split at h
    ·cases h
    ·split at h
     ·rename_i h3 h4 h5
      refine⟨by omega,by omega,errL_ok ss 0 h5,fun o ho=>?_⟩
      split at h
      ·cases h
      ·rename_i h6
       have h7:os.any (outOf (ss.length:Int))=false:=by cases e:os.any (outOf (ss.length:Int))with|true=>exact absurd e h6|false=>rfl
       rw[List.any_eq_false]at h7
       have h8:=h7 o ho
       exact zax (by cases e:outOf (ss.length:Int) o with|true=>exact absurd e h8|false=>rfl)
     ·rename_i h5
      exact absurd h h5
theorem cutRat_f{x:S59}(h2:u32s x.f2)(h3:u32s x.f3)(room:Int): ∃ (y:S59) (u:Int),fluxionref08_CutRat.f x.f0 x.f1 x.f2 x.f3 room=some (y.f0,y.f1,y.f2,y.f3,u)∧u32R y:=by
 obtain⟨c,hc⟩: ∃c:Int,mn 130 (mx 2 (wrap64 (Int.tdiv room 2)))=c:=⟨_,rfl⟩
 have hc0:2≤c∧c≤130:=by rw[←hc];unfold mn mx;split<;>split<;>omega
 have hm: ∀n:Nat,∃t:Nat,mn (n:Int) c=(t:Int)∧t≤n∧t≤130:=fun n=>by
  by_cases h:c< (n:Int)
  ·exact⟨c.toNat,by unfold mn;rw[if_pos h];omega,by omega,by omega⟩
  ·exact⟨n,by unfold mn;rw[if_neg h],Nat.le_refl _,by omega⟩
 obtain⟨t,ht,ht1,ht2⟩:=hm x.f2.length
 obtain⟨s,hs,hs1,hs2⟩:=hm x.f3.length
 refine⟨⟨x.f0,x.f1,x.f2.take t,x.f3.take s⟩,wrap64 (((x.f2.take t).length:Int) + ((x.f3.take s).length:Int)),?_,u32s_take h2 t,u32s_take h3 s,by show(x.f2.take t).length< _;rw[List.length_take];omega,by show(x.f3.take s).length< _;rw[List.length_take];omega⟩
 unfold fluxionref08_CutRat.f
 rw[hc,ht,hs]
 simp only[Option.bind_some,Int.toNat_natCast,List.nil_append,List.length_nil,Nat.zero_add]
 rw[if_pos (by omega),if_pos (by omega),if_pos (by rw[List.length_take];omega),if_pos (by omega),if_pos (by omega),if_pos (by rw[List.length_take];omega)]
section
variable {n:Int} {ss:List S81} {os ol:List Int}
end
def zac(tl:List Int)(s:S81):S81:=⟨s.f0,if hasA s.f0=true then tl.getD s.f1.toNat 0 else s.f1,if hasB s.f0=true then tl.getD s.f2.toNat 0 else s.f2,s.f3⟩
def zaf:List S81→List Int→List S81→List S81×List Int
 | [],tl,w=>(w,tl)
 |s::ss,tl,w=>zaf ss (tl++ [(w.length:Int)]) (w++ [zac tl s])
theorem getD_app{α:Type}(l r:List α)(d:α){i:Nat}(h:i< l.length):(l++r).getD i d=l.getD i d:=by
 rw[List.getD_eq_getElem?_getD,List.getElem?_append_left h,←List.getD_eq_getElem?_getD]
theorem getD_last{α:Type}(l:List α)(a d:α):(l++ [a]).getD l.length d=a:=by
 rw[List.getD_eq_getElem?_getD,List.getElem?_append_right (Nat.le_refl _),Nat.sub_self]
 rfl
def iota(n:Nat):List Int:=(List.range n).map fun j:Nat=>(j:Int)
theorem iota_at{n j:Nat}(h:j< n):(iota n).getD j 0=(j:Int):=by
 unfold iota
 rw[List.getD_eq_getElem?_getD,List.getElem?_map,List.getElem?_range h]
 rfl
theorem zbp{n:Int}(s:S81): ∀ (w:List S81) (i:Nat),errL n w i=0→errL n (w++ [s]) i=errL n [s] (i+w.length)
 | [],i,_=>rfl
 |x::w,i,h=>by
  rw[errL]at h
  rw[List.cons_append,errL]
  cases hf:formB x (decide ((i:Int)< n))with
  |false=>rw[hf,if_neg (by decide)]at h;cases h
  |true=>
   rw[hf,if_pos rfl]at h
   rw[if_pos rfl]
   cases hb:zab i x with
   |true=>rw[hb,if_pos rfl]at h;cases h
   |false=>
    rw[hb,if_neg (by decide)]at h
    rw[if_neg (by decide),zbp s w (i+1) h,List.length_cons,show i+1+w.length=i+ (w.length+1)from by omega]
theorem zbe{n:Int}{s:S81}{ss:List S81}{i:Nat}(h:errL n (s::ss) i=0):formB s (decide ((i:Int)< n))=true∧zab i s=false∧errL n ss (i+1)=0:=by
 rw[errL]at h
 cases hf:formB s (decide ((i:Int)< n))with
 |false=>rw[hf,if_neg (by decide)]at h;cases h
 |true=>
  rw[hf,if_pos rfl]at h
  cases hb:zab i s with
  |true=>rw[hb,if_pos rfl]at h;cases h
  |false=>rw[hb,if_neg (by decide)]at h;exact⟨rfl,rfl,h⟩
theorem mapStep_form(tl:List Int)(s:S81)(inp:Bool):formB (zac tl s) inp=formB s inp:=by
 have hb:badF (zac tl s).f0 (zac tl s).f1 (zac tl s).f2 inp=badF s.f0 s.f1 s.f2 inp:=by
  unfold badF zac
  cases ha:hasA s.f0<;>cases hb:hasB s.f0<;>simp[ha,hb]
 unfold formB
 rw[hb]
 rfl
theorem in_of{n x:Int}(h0:0≤x)(h1:x< n):outOf n x=false:=by
 unfold outOf
 rw[decide_eq_false (by omega),decide_eq_false (by omega)]
 rfl
theorem zbm{x:Nat}{tl:List Int}{L:Nat}{s:S81}(hr: ∀i,i< x→0≤tl.getD i 0∧tl.getD i 0< (L:Int))(h:zab x s=false):zab L (zac tl s)=false:=by
 unfold zab at h ⊢
 rw[Bool.or_eq_false_iff]at h ⊢
 refine⟨?_,?_⟩
 ·show(hasA s.f0 && outOf (L:Int) (zac tl s).f1)=false
  cases ha:hasA s.f0 with
  |false=>rfl
  |true=>
   have h1:=h.1
   rw[ha,Bool.true_and]at h1
   have h2:=zax h1
   have h3:=hr s.f1.toNat (by omega)
   rw[Bool.true_and,show(zac tl s).f1=tl.getD s.f1.toNat 0 from by unfold zac;rw[ha];rfl]
   exact in_of h3.1 h3.2
 ·show(hasB s.f0 && outOf (L:Int) (zac tl s).f2)=false
  cases ha:hasB s.f0 with
  |false=>rfl
  |true=>
   have h1:=h.2
   rw[ha,Bool.true_and]at h1
   have h2:=zax h1
   have h3:=hr s.f2.toNat (by omega)
   rw[Bool.true_and,show(zac tl s).f2=tl.getD s.f2.toNat 0 from by unfold zac;rw[ha];rfl]
   exact in_of h3.1 h3.2
theorem join_ok{n:Int}{m:Nat} : ∀ (ts:List S81) (x:Nat) (tl:List Int) (w:List S81),m≤x→tl.length=x→(∀i,i< x→0≤tl.getD i 0∧tl.getD i 0< (w.length:Int))→n≤(w.length:Int)→errL n w 0=0→errL (m:Int) ts x=0→
  errL n (zaf ts tl w).1 0=0∧(zaf ts tl w).1.length=w.length+ts.length∧(zaf ts tl w).2.length=x+ts.length∧ ∀i,i< x+ts.length→0≤(zaf ts tl w).2.getD i 0∧(zaf ts tl w).2.getD i 0< ((zaf ts tl w).1.length:Int)
 | [],x,tl,w,_,htl,hr,_,hw,_=>⟨hw,rfl,htl,hr⟩
 |s::ts,x,tl,w,hm,htl,hr,hn,hw,ht=>by
  obtain⟨h1,h2,h3⟩:=zbe ht
  rw[decide_eq_false (by omega)]at h1
  have h4:errL n (w++ [zac tl s]) 0=0:=by
   rw[zbp _ w 0 hw,Nat.zero_add,errL,decide_eq_false (by omega),mapStep_form,h1,if_pos rfl,zbm hr h2,if_neg (by decide),errL]
  rw[zaf]
  obtain⟨a,b,c,d⟩:=join_ok (n:=n) (m:=m) ts (x+1) (tl++ [(w.length:Int)]) (w++ [zac tl s]) (by omega) (by rw[List.length_append,htl];rfl) (fun j hj=>by
   by_cases e:j< x
   ·rw[getD_app _ _ _ (by omega),List.length_append]
    have:=hr j e
    exact⟨this.1,by rw[List.length_singleton];omega⟩
   ·obtain rfl:j=tl.length:=by omega
    rw[getD_last,List.length_append,List.length_singleton]
    omega) (by rw[List.length_append];omega) h4 h3
  refine⟨a,by rw[b,List.length_append,List.length_singleton,List.length_cons];omega,by rw[c,List.length_cons];omega,fun i hi=>d i (by rw[List.length_cons]at hi;omega)⟩
theorem isRat_facts{f:Int}{p:Bool}{x a:List Int}(hx:u32s x)(ha:u32s a)(h:zam f p x a=true):canon x∧canon a∧x.length≤128∧a.length≤128:=by
 unfold zam at h
 by_cases h0:f=0
 ·rw[if_pos h0]at h
  simp only[Bool.and_eq_true]at h
  have h1:=zad hx h.1
  have h2:=zad ha h.2.1
  exact⟨h1.1,h2.1,h1.2,h2.2⟩
 ·rw[if_neg h0]at h
  simp only[Bool.and_eq_true,List.isEmpty_iff]at h
  obtain⟨_,_,rfl,rfl⟩:=h
  exact⟨canon_nil,canon_nil,by simp,by simp⟩
abbrev RatV:=Int×Bool×List Int×List Int
def validR(r:RatV):Prop:=u32s r.2.2.1∧u32s r.2.2.2∧zam r.1 r.2.1 r.2.2.1 r.2.2.2=true
theorem val_one:valN [1] =1:=by simp[valN]
theorem val_nilN:valN [] =0:=by simp[valN]
theorem digN_one:digN 1= [1] :=by
 have h:canon [1] :=⟨u32s_cons.2 ⟨by decide,u32s_nil⟩,fun h=>by simp⟩
 rw[←digN_val h,val_one]
theorem zay{p:Bool}{x a:List Int}(hx:u32s x)(ha:u32s a)(h:zam 0 p x a=true):canon x∧canon a∧x.length≤128∧a.length≤128∧a≠ [] ∧(p=true→x≠ [])∧Nat.gcd (valN x) (valN a)=1:=by
 obtain⟨h1,h2,h3,h4⟩:=isRat_facts hx ha h
 unfold zam at h
 rw[if_pos rfl]at h
 simp only[Bool.and_eq_true,Bool.not_eq_true',decide_eq_true_eq,Bool.and_eq_false_iff]at h
 obtain⟨_,_,h5,h6,h7⟩:=h
 refine⟨h1,h2,h3,h4,fun e=>by rw[e]at h5;simp at h5,fun hp e=>?_,h7⟩
 rcases h6 with h6|h6
 ·rw[hp]at h6;cases h6
 ·rw[e]at h6;simp at h6
theorem ratioR_self{p:Bool}{x a:List Int}(hx:u32s x)(ha:u32s a)(h:zam 0 p x a=true):zbj p (valN x) (valN a)=(0,p,x,a):=by
 obtain⟨h1,h2,h3,h4,h5,h6,h7⟩:=zay hx ha h
 have hd:valN a≠0:=Nat.pos_iff_ne_zero.1 (val_pos h2 h5)
 have hE:exactR p (valN x) (valN a)=(0,p,x,a):=by
  unfold exactR
  by_cases h0:valN x=0
  ·rw[if_pos h0]
   have hx0:x= [] :=by rw[←digN_val h1,h0,digN_zero]
   have hp:p=false:=by cases p with
    |false=>rfl
    |true=>exact absurd hx0 (h6 rfl)
   rw[h0,Nat.gcd_zero_left]at h7
   rw[hp,hx0,←digN_val h2,h7,digN_one]
  ·rw[if_neg h0,h7,Nat.div_one,Nat.div_one,digN_val h1,digN_val h2]
 unfold zbj
 rw[if_neg hd,hE]
 unfold boundR
 rw[if_neg]
 rintro (h|h)
 ·have:=(zat h1).2 h3;simp only[]at h;omega
 ·have:=(zat h2).2 h4;simp only[]at h;omega
theorem valid_zero:validR (0,false,[],[1]):=by
 refine⟨u32s_nil,u32s_cons.2 ⟨by decide,u32s_nil⟩,?_⟩
 rfl
theorem ratioR_zero1:zbj false 0 1=(0,false,[],[1]):=by
 have:=ratioR_self (p:=false) (x:= []) (a:= [1]) valid_zero.1 valid_zero.2.1 valid_zero.2.2
 rwa [val_nilN,val_one]at this
theorem size_f{n:Nat}(h:n< 9223372036854775808):Ev (fun k=>frac_size.f k (n:Int)) (false,digN n):=by
 unfold frac_size.f
 refine Ev.no (by omega) ?_
 rw[u64w (n:Int) (by omega)]
 exact Ev.bind (natOf_f n (by omega)) (Ev.now _)
theorem form_op{k a b:Int}(h3:3≤k)(h7:k≤7)(hb:k=7→b=0):formB (stepOf k a b) false=true:=by
 have hk:k=3∨k=4∨k=5∨k=6∨k=7:=by omega
 rcases hk with rfl|rfl|rfl|rfl|rfl
 ·rfl
 ·rfl
 ·rfl
 ·rfl
 ·rw[hb rfl];rfl
theorem parts_op{L:Nat}{k a b:Int}(ha:0≤a∧a< (L:Int))(hb:k=7∨(0≤b∧b< (L:Int))):zab L (stepOf k a b)=false:=by
 unfold zab
 rw[Bool.or_eq_false_iff]
 refine⟨?_,?_⟩
 ·show(hasA k && outOf (L:Int) a)=false
  rw[in_of ha.1 ha.2,Bool.and_false]
 ·show(hasB k && outOf (L:Int) b)=false
  rcases hb with rfl|hb
  ·rfl
  ·rw[in_of hb.1 hb.2,Bool.and_false]
theorem errL_snoc{m:Int}{w:List S81}{s:S81}(h:errL m w 0=0)(hm:m≤(w.length:Int))(hf:formB s false=true)(hp:zab w.length s=false):errL m (w++ [s]) 0=0:=by
 rw[zbp s w 0 h,Nat.zero_add,errL,decide_eq_false (by omega),if_pos hf,hp,if_neg (by decide),errL]
def wOk(L:Nat)(x:Int):Prop:=x= -1∨(0≤x∧x< (L:Int))
theorem wOk.mono{L M:Nat}{x:Int}(h:wOk L x)(hm:L≤M):wOk M x:=by
 rcases h with h|h
 ·exact .inl h
 ·exact .inr ⟨h.1,by omega⟩
structure RevInv (m:Int) (L:Nat) (st:List S81×List Int):Prop where
 ok:errL m st.1 0=0
 ge:m≤(st.1.length:Int)
 len:st.2.length=L
 ws: ∀x∈st.2,wOk st.1.length x
theorem zaw{l:List Int}{i:Int}(h0:0≤i)(h1:i< (l.length:Int)):rd l i∈l:=by
 unfold rd
 rw[List.getD_eq_getElem?_getD,List.getElem?_eq_getElem (by omega:i.toNat< l.length)]
 exact List.getElem_mem _
theorem set_ws{l:List Int}{n:Nat}{y:Int}{L M:Nat}(h: ∀x∈l,wOk L x)(hm:L≤M)(hy:wOk M y): ∀x∈l.set n y,wOk M x:=fun x hx=>by
 rcases List.mem_or_eq_of_mem_set hx with h1|h1
 ·exact(h x h1).mono hm
 ·rw[h1];exact hy
section
variable {m:Int} {L:Nat} {st:List S81×List Int}
theorem zap{w:List S81}{k a b:Int}(h:errL m w 0=0)(hm:m≤(w.length:Int))(hl:w.length≤1000000)(h3:3≤k)(h7:k≤7)(ha:0≤a∧a< (w.length:Int))(hb:(k=7∧b=0)∨(k≠7∧0≤b∧b< (w.length:Int))):tAdd w k a b=some (w++ [stepOf k a b])∧errL m (w++ [stepOf k a b]) 0=0:=by
 refine⟨by unfold tAdd;rw[if_pos hl],errL_snoc h hm (form_op h3 h7 (fun e=>?_)) (parts_op ha ?_)⟩
 ·rcases hb with hb|hb
  ·exact hb.2
  ·exact absurd e hb.1
 ·rcases hb with hb|hb
  ·exact .inl hb.1
  ·exact .inr hb.2
theorem zaa{α:Type}(w:List α)(s:α):(w++ [s]).length=w.length+1:=by rw[List.length_append];rfl
theorem zag(h:RevInv m L st){a y:Int}(ha:0≤a∧a< (L:Int))(hy:0≤y∧y< (st.1.length:Int))(hl:st.1.length≤1000000): ∃q,tMore st a y=some q∧RevInv m L q∧st.1.length≤q.1.length∧q.1.length≤st.1.length+1:=by
 have hlen:=h.len
 unfold tMore
 rw[if_pos (by omega)]
 by_cases e:rd st.2 a= -1
 ·rw[if_pos e]
  exact⟨_,rfl,⟨h.ok,h.ge,by rw[List.length_set,h.len],set_ws h.ws (Nat.le_refl _) (.inr hy)⟩,Nat.le_refl _,Nat.le_succ _⟩
 ·rw[if_neg e]
  have hw:0≤rd st.2 a∧rd st.2 a< (st.1.length:Int):=by
   rcases h.ws _ (zaw ha.1 (by omega))with h1|h1
   ·exact absurd h1 e
   ·exact h1
  obtain⟨h1,h2⟩:=zap (k:=3) (b:=y) h.ok h.ge hl (by omega) (by omega) hw (.inr ⟨by omega,hy⟩)
  rw[h1,Option.bind_some]
  exact⟨_,rfl,⟨h2,by rw[zaa];have:=h.ge;omega,by rw[List.length_set,h.len],set_ws h.ws (by rw[zaa];omega) (.inr ⟨by omega,by rw[zaa];omega⟩)⟩,by rw[zaa];omega,by rw[zaa];omega⟩
theorem zbl(h:RevInv m L st){a y:Int}(ha:0≤a∧a< (L:Int))(hy:0≤y∧y< (st.1.length:Int))(hl:st.1.length≤1000000): ∃q,tLess st a y=some q∧RevInv m L q∧st.1.length≤q.1.length∧q.1.length≤st.1.length+1:=by
 have hlen:=h.len
 unfold tLess
 rw[if_pos (by omega)]
 by_cases e:rd st.2 a= -1
 ·rw[if_pos e]
  obtain⟨h1,h2⟩:=zap (k:=7) (b:=0) h.ok h.ge hl (by omega) (by omega) hy (.inl ⟨rfl,rfl⟩)
  rw[h1,Option.bind_some]
  exact⟨_,rfl,⟨h2,by rw[zaa];have:=h.ge;omega,by rw[List.length_set,h.len],set_ws h.ws (by rw[zaa];omega) (.inr ⟨by omega,by rw[zaa];omega⟩)⟩,by rw[zaa];omega,by rw[zaa];omega⟩
 ·rw[if_neg e]
  have hw:0≤rd st.2 a∧rd st.2 a< (st.1.length:Int):=by
   rcases h.ws _ (zaw ha.1 (by omega))with h1|h1
   ·exact absurd h1 e
   ·exact h1
  obtain⟨h1,h2⟩:=zap (k:=4) (b:=y) h.ok h.ge hl (by omega) (by omega) hw (.inr ⟨by omega,hy⟩)
  rw[h1,Option.bind_some]
  exact⟨_,rfl,⟨h2,by rw[zaa];have:=h.ge;omega,by rw[List.length_set,h.len],set_ws h.ws (by rw[zaa];omega) (.inr ⟨by omega,by rw[zaa];omega⟩)⟩,by rw[zaa];omega,by rw[zaa];omega⟩
theorem zaq(h:RevInv m L st){to_:List Int}{k y j:Int}(h3:5≤k)(h7:k≤6)(hy:0≤y∧y< (st.1.length:Int))(hj:0≤j∧j< (to_.length:Int))(ht: ∀x∈to_,0≤x∧x< (st.1.length:Int))(hl:st.1.length≤1000000): ∃q,tTimes st k y to_ j=some q∧RevInv m L q∧q.1.length=st.1.length+1:=by
 unfold tTimes
 rw[if_pos hj]
 obtain⟨h1,h2⟩:=zap (k:=k) (a:=y) (b:=rd to_ j) h.ok h.ge hl (by omega) (by omega) hy (.inr ⟨by omega,ht _ (zaw hj.1 hj.2)⟩)
 rw[h1,Option.bind_some]
 exact⟨_,rfl,⟨h2,by rw[zaa];have:=h.ge;omega,h.len,fun x hx=>(h.ws x hx).mono (by rw[zaa];omega)⟩,zaa _ _⟩
theorem revStep_ok(h:RevInv m L st){to_:List Int}{s:S81}{i:Nat}(hs:zbr i s)(hi:i< L)(hi2:i< to_.length)(ht: ∀x∈to_,0≤x∧x< (st.1.length:Int))(hl:st.1.length≤900000): ∃q,revStep to_ s i st=some q∧RevInv m L q∧st.1.length≤q.1.length∧q.1.length≤st.1.length+4:=by
 have hlen:=h.len
 obtain⟨hk,hA,hB⟩:=hs
 unfold revStep
 rw[if_pos (by omega)]
 by_cases e:rd st.2 (i:Int)= -1
 ·rw[if_pos e];exact⟨st,rfl,h,Nat.le_refl _,by omega⟩
 rw[if_neg e]
 have hw:0≤rd st.2 (i:Int)∧rd st.2 (i:Int)< (st.1.length:Int):=by
  rcases h.ws _ (zaw (i:=(i:Int)) (by omega) (by omega))with h1|h1
  ·exact absurd h1 e
  ·exact h1
 generalize rd st.2 (i:Int)=y at hw
 have two:(3≤s.f0∧s.f0≤6)→(0≤s.f1∧s.f1< (i:Int))∧(0≤s.f2∧s.f2< (i:Int)):=fun h'=>⟨hA (by unfold hasA;rw[decide_eq_true h'.1,decide_eq_true (by omega:s.f0≤7)];rfl),hB (by unfold hasB;rw[decide_eq_true h'.1,decide_eq_true h'.2];rfl)⟩
 by_cases e3:s.f0=3
 ·rw[if_pos e3]
  have h2:=two (by omega)
  obtain⟨q,a1,a2,a3,a4⟩:=zag h (a:=s.f1) (y:=y) (by omega) hw (by omega)
  rw[a1,Option.bind_some]
  obtain⟨r,b1,b2,b3,b4⟩:=zag a2 (a:=s.f2) (y:=y) (by omega) (by omega) (by omega)
  exact⟨r,b1,b2,by omega,by omega⟩
 rw[if_neg e3]
 by_cases e4:s.f0=4
 ·rw[if_pos e4]
  have h2:=two (by omega)
  obtain⟨q,a1,a2,a3,a4⟩:=zag h (a:=s.f1) (y:=y) (by omega) hw (by omega)
  rw[a1,Option.bind_some]
  obtain⟨r,b1,b2,b3,b4⟩:=zbl a2 (a:=s.f2) (y:=y) (by omega) (by omega) (by omega)
  exact⟨r,b1,b2,by omega,by omega⟩
 rw[if_neg e4]
 by_cases e7:s.f0=7
 ·rw[if_pos e7]
  have h2:=hA (by unfold hasA;rw[e7];rfl)
  obtain⟨q,a1,a2,a3,a4⟩:=zbl h (a:=s.f1) (y:=y) (by omega) hw (by omega)
  exact⟨q,a1,a2,by omega,by omega⟩
 rw[if_neg e7]
 have hto: ∀ {q:List S81×List Int},st.1.length≤q.1.length→ ∀x∈to_,0≤x∧x< (q.1.length:Int):=fun hq x hx=>by have:=ht x hx;omega
 by_cases e5:s.f0=5
 ·rw[if_pos e5]
  have h2:=two (by omega)
  obtain⟨q,a1,a2,a3⟩:=zaq h (k:=5) (y:=y) (j:=s.f2) (by omega) (by omega) hw (by omega) ht (by omega)
  rw[a1,Option.bind_some]
  obtain⟨q1,b1,b2,b3,b4⟩:=zag a2 (a:=s.f1) (y:=(st.1.length:Int)) (by omega) (by omega) (by omega)
  rw[b1,Option.bind_some]
  obtain⟨q2,c1,c2,c3⟩:=zaq b2 (k:=5) (y:=y) (j:=s.f1) (by omega) (by omega) (by omega) (by omega) (hto (by omega)) (by omega)
  rw[c1,Option.bind_some]
  obtain⟨q3,d1,d2,d3,d4⟩:=zag c2 (a:=s.f2) (y:=(q1.1.length:Int)) (by omega) (by omega) (by omega)
  exact⟨q3,d1,d2,by omega,by omega⟩
 rw[if_neg e5]
 by_cases e6:s.f0=6
 ·rw[if_pos e6]
  have h2:=two (by omega)
  obtain⟨q,a1,a2,a3⟩:=zaq h (k:=6) (y:=y) (j:=s.f2) (by omega) (by omega) hw (by omega) ht (by omega)
  rw[a1,Option.bind_some]
  obtain⟨q1,b1,b2,b3,b4⟩:=zag a2 (a:=s.f1) (y:=(st.1.length:Int)) (by omega) (by omega) (by omega)
  rw[b1,Option.bind_some]
  obtain⟨q2,c1,c2,c3⟩:=zaq b2 (k:=5) (y:=(st.1.length:Int)) (j:=(i:Int)) (by omega) (by omega) (by omega) (by omega) (hto (by omega)) (by omega)
  rw[c1,Option.bind_some]
  obtain⟨q3,d1,d2,d3,d4⟩:=zbl c2 (a:=s.f2) (y:=(q1.1.length:Int)) (by omega) (by omega) (by omega)
  exact⟨q3,d1,d2,by omega,by omega⟩
 rw[if_neg e6]
 exact⟨st,rfl,h,Nat.le_refl _,by omega⟩
theorem zbi{ss:List S81}{to_:List Int}{n:Nat}(hok:zaj 0 ss)(hL:ss.length=L)(htl:to_.length=L): ∀d st,RevInv m L st→n+d≤L→(∀x∈to_,0≤x∧x< (st.1.length:Int))→st.1.length+4 * d≤900000→ ∃q,revLoop ss to_ n d st=some q∧RevInv m L q∧st.1.length≤q.1.length∧q.1.length≤st.1.length+4 * d
 |0,st,h,_,_,_=>⟨st,rfl,h,Nat.le_refl _,by omega⟩
 |d+1,st,h,hd,ht,hl=>by
  rw[revLoop]
  have hs:zbr (n+d) (ss.getD (n+d) ⟨0,0,0,zRat⟩):=by
   have h1:=zbh ss 0 (n+d) (by omega) hok
   rw[Nat.zero_add]at h1
   rw[List.getD_eq_getElem?_getD,List.getElem?_eq_getElem (by omega:n+d< ss.length)]
   exact h1
  obtain⟨q,a1,a2,a3,a4⟩:=revStep_ok h hs (by omega) (by omega) ht (by omega)
  rw[a1,Option.bind_some]
  obtain⟨r,b1,b2,b3,b4⟩:=zbi (n:=n) hok hL htl d q a2 (by omega) (fun x hx=>by have:=ht x hx;omega) (by omega)
  exact⟨r,b1,b2,by omega,by omega⟩
theorem zbs{n:Nat} : ∀ (os:List Int) (i:Nat) st,RevInv m L st→(∀o∈os,0≤o∧o< (L:Int))→((n+i+os.length:Nat):Int)≤m→st.1.length+os.length≤900000→ ∃q,revOut (n:Int) os i st=some q∧RevInv m L q∧st.1.length≤q.1.length∧q.1.length≤st.1.length+os.length
 | [],_,st,h,_,_,_=>⟨st,rfl,h,Nat.le_refl _,by omega⟩
 |k::os,i,st,h,ho,hm,hl=>by
  rw[revOut]
  rw[List.length_cons]at hm hl
  have:=h.ge
  obtain⟨q,a1,a2,a3,a4⟩:=zag h (a:=k) (y:=(n:Int) + (i:Int)) (ho k (List.mem_cons_self ..)) (by omega) (by omega)
  rw[a1,Option.bind_some]
  obtain⟨r,b1,b2,b3,b4⟩:=zbs (n:=n) os (i+1) q a2 (fun o h'=>ho o (List.mem_cons_of_mem _ h')) (by omega) (by omega)
  exact⟨r,b1,b2,by omega,by rw[List.length_cons];omega⟩
end
theorem formB_zero{s:S81}{inp:Bool}(h:formB s inp=true):s.f3.f0=0∧(hasA s.f0=false→s.f1=0)∧(hasB s.f0=false→s.f2=0):=by
 have hk:=zan h
 unfold formB at h
 rw[if_pos hk]at h
 cases hb:badF s.f0 s.f1 s.f2 inp with
 |true=>rw[hb,if_pos rfl]at h;cases h
 |false=>
  rw[hb,if_neg (by decide)]at h
  unfold badF at hb
  rw[Bool.or_eq_false_iff,Bool.or_eq_false_iff]at hb
  refine⟨?_,fun e=>?_,fun e=>?_⟩
  ·split at h
   ·rw[Bool.and_eq_true]at h
    simpa using h.2
   ·unfold zeroB at h
    rw[Bool.and_eq_true]at h
    simpa using h.1
  ·have h1:=hb.1.2
   rw[e]at h1
   simpa using h1
  ·have h1:=hb.2
   rw[e]at h1
   simpa using h1
theorem zbq{m:Int} : ∀ (ts:List S81) (x:Nat) (tl:List Int) (w:List S81),errL m ts x=0→tl.length=x→(∀s∈ts,u32R s.f3)→w.length+ts.length≤1000000→copyGo ts tl w=some (zaf ts tl w)
 | [],_,_,_,_,_,_,_=>rfl
 |s::ts,x,tl,w,h,hl,hu,hw=>by
  obtain⟨hf,hp,h2⟩:=zbe h
  have hk:=zan hf
  obtain⟨hz,hA0,hB0⟩:=formB_zero hf
  have hAB:hasB s.f0=true→hasA s.f0=true:=by unfold hasA hasB;simp;omega
  have hu1:=hu s (List.mem_cons_self ..)
  rw[List.length_cons]at hw
  have hps:trace_Parts.f s.f0 s.f1 s.f2=some (if hasB s.f0=true then[s.f1,s.f2]else if hasA s.f0=true then[s.f1]else[]):=by
   unfold trace_Parts.f trace_parts.f
   rw[if_pos (by omega),kind_A hk,kind_B hk]
  unfold zab at hp
  rw[Bool.or_eq_false_iff]at hp
  have c2:slices_Clone_uint32_uint32.f s.f3.f2=some s.f3.f2:=by unfold slices_Clone_uint32_uint32.f;rw[if_pos (by have:=hu1.2.2.1;omega)]
  have c3:slices_Clone_uint32_uint32.f s.f3.f3=some s.f3.f3:=by unfold slices_Clone_uint32_uint32.f;rw[if_pos (by have:=hu1.2.2.2;omega)]
  have key: ∀a b,(if hasA s.f0=true then tl.getD s.f1.toNat 0 else s.f1)=a→(if hasB s.f0=true then tl.getD s.f2.toNat 0 else s.f2)=b→(⟨s.f0,a,b,⟨0,s.f3.f1,s.f3.f2,s.f3.f3⟩⟩:S81)=zac tl s:=fun a b ha hb=>by
   unfold zac
   rw[ha,hb]
   congr 1
   have:s.f3=⟨s.f3.f0,s.f3.f1,s.f3.f2,s.f3.f3⟩:=rfl
   rw[this,hz]
  rw[copyGo,hps,Option.bind_some,c2,c3,zaf]
  have rec_:=zbq (m:=m) ts (x+1) (tl++ [(w.length:Int)]) (w++ [zac tl s]) h2 (by rw[List.length_append,hl];rfl) (fun y hy=>hu y (List.mem_cons_of_mem _ hy)) (by rw[List.length_append,List.length_singleton];omega)
  cases hb:hasB s.f0 with
  |true=>
   have ha:=hAB hb
   have h3:=hp.1
   have h4:=hp.2
   rw[ha,Bool.true_and]at h3
   rw[hb,Bool.true_and]at h4
   have h5:=zax h3
   have h6:=zax h4
   simp only[if_true,List.length_cons,List.length_nil]
   rw[if_pos (by omega),if_pos (by omega),if_pos (by omega),if_pos (by omega)]
   simp only[Option.bind_some]
   rw[if_pos (by omega),key _ _ (by rw[ha];rfl) (by rw[hb];rfl)]
   exact rec_
  |false=>
   cases ha:hasA s.f0 with
   |true=>
    have h3:=hp.1
    rw[ha,Bool.true_and]at h3
    have h5:=zax h3
    simp only[if_true,Bool.false_eq_true,if_false,List.length_cons,List.length_nil]
    rw[if_pos (by omega),if_pos (by omega),if_neg (by omega)]
    simp only[Option.bind_some]
    rw[if_pos (by omega),key _ _ (by rw[ha];rfl) (by rw[hb];exact hB0 hb)]
    exact rec_
   |false=>
    simp only[Bool.false_eq_true,if_false,List.length_nil]
    rw[if_neg (by omega),if_neg (by omega)]
    simp only[Option.bind_some]
    rw[if_pos (by omega),key _ _ (by rw[ha];exact hA0 ha) (by rw[hb];exact hB0 hb)]
    exact rec_
theorem zbc{m:Int} : ∀ (j i:Nat),((i+j:Nat):Int)≤m→errL m (List.replicate j (stepOf 1 0 0)) i=0
 |0,_,_=>rfl
 |j+1,i,h=>by
  rw[List.replicate_succ,errL,decide_eq_true (by omega)]
  rw[if_pos (by rfl),show zab i (stepOf 1 0 0)=false from rfl,if_neg (by decide)]
  exact zbc j (i+1) (by omega)
def allU(w:List S81):Prop:= ∀s∈w,u32R s.f3
theorem u32R_z:u32R zRat:=⟨u32s_nil,u32s_nil,by decide,by decide⟩
theorem u32R_lit0:u32R ⟨0,false,[],[1]⟩:=⟨u32s_nil,u32s_cons.2 ⟨by decide,u32s_nil⟩,by decide,by decide⟩
theorem zbf{w:List S81}{s:S81}(h:allU w)(hs:u32R s.f3):allU (w++ [s]):=fun x hx=>by
 rcases List.mem_append.1 hx with h1|h1
 ·exact h x h1
 ·rw[List.mem_singleton.1 h1];exact hs
theorem zbg(m:Nat):allU (tInputs m []):=fun s hs=>by
 unfold tInputs at hs
 rw[List.nil_append]at hs
 rw[List.eq_of_mem_replicate hs]
 exact u32R_z
theorem zbb{w q:List S81}{k a b:Int}(h:tAdd w k a b=some q)(hu:allU w):allU q:=by
 unfold tAdd at h
 split at h
 ·obtain rfl:=Option.some.inj h;exact zbf hu u32R_z
 ·cases h
theorem zao{st q:List S81×List Int}{a b:Int}(h:tMore st a b=some q)(hu:allU st.1):allU q.1:=by
 unfold tMore at h
 split at h
 ·split at h
  ·obtain rfl:=Option.some.inj h;exact hu
  ·obtain⟨s,h1,h2⟩:=Option.bind_eq_some_iff.1 h;obtain rfl:=Option.some.inj h2;exact zbb h1 hu
 ·cases h
theorem tLess_u{st q:List S81×List Int}{a b:Int}(h:tLess st a b=some q)(hu:allU st.1):allU q.1:=by
 unfold tLess at h
 split at h
 ·split at h
  ·obtain⟨s,h1,h2⟩:=Option.bind_eq_some_iff.1 h;obtain rfl:=Option.some.inj h2;exact zbb h1 hu
  ·obtain⟨s,h1,h2⟩:=Option.bind_eq_some_iff.1 h;obtain rfl:=Option.some.inj h2;exact zbb h1 hu
 ·cases h
theorem zaz{st q:List S81×List Int}{k y j:Int}{to_:List Int}(h:tTimes st k y to_ j=some q)(hu:allU st.1):allU q.1:=by
 unfold tTimes at h
 split at h
 ·obtain⟨s,h1,h2⟩:=Option.bind_eq_some_iff.1 h;obtain rfl:=Option.some.inj h2;exact zbb h1 hu
 ·cases h
theorem revStep_u{to_:List Int}{s:S81}{i:Nat}{st q:List S81×List Int}(h:revStep to_ s i st=some q)(hu:allU st.1):allU q.1:=by
 unfold revStep at h
 split at h
 ·split at h
  ·obtain rfl:=Option.some.inj h;exact hu
  ·split at h
   ·obtain⟨x,h1,h2⟩:=Option.bind_eq_some_iff.1 h;exact zao h2 (zao h1 hu)
   ·split at h
    ·obtain⟨x,h1,h2⟩:=Option.bind_eq_some_iff.1 h;exact tLess_u h2 (zao h1 hu)
    ·split at h
     ·exact tLess_u h hu
     ·split at h
      ·obtain⟨x,h1,h⟩:=Option.bind_eq_some_iff.1 h
       obtain⟨y,h2,h⟩:=Option.bind_eq_some_iff.1 h
       obtain⟨z,h3,h4⟩:=Option.bind_eq_some_iff.1 h
       exact zao h4 (zaz h3 (zao h2 (zaz h1 hu)))
      ·split at h
       ·obtain⟨x,h1,h⟩:=Option.bind_eq_some_iff.1 h
        obtain⟨y,h2,h⟩:=Option.bind_eq_some_iff.1 h
        obtain⟨z,h3,h4⟩:=Option.bind_eq_some_iff.1 h
        exact tLess_u h4 (zaz h3 (zao h2 (zaz h1 hu)))
       ·obtain rfl:=Option.some.inj h;exact hu
 ·cases h
theorem revLoop_u{ss:List S81}{to_:List Int}{n:Nat} : ∀d {st q:List S81×List Int},revLoop ss to_ n d st=some q→allU st.1→allU q.1
 |0,_,_,h,hu=>by rw[revLoop]at h;obtain rfl:=Option.some.inj h;exact hu
 |d+1,_,_,h,hu=>by
  rw[revLoop]at h
  obtain⟨x,h1,h2⟩:=Option.bind_eq_some_iff.1 h
  exact revLoop_u d h2 (revStep_u h1 hu)
theorem revOut_u{n:Int} : ∀ (os:List Int) (i:Nat) {st q:List S81×List Int},revOut n os i st=some q→allU st.1→allU q.1
 | [],_,_,_,h,hu=>by rw[revOut]at h;obtain rfl:=Option.some.inj h;exact hu
 |o::os,i,_,_,h,hu=>by
  rw[revOut]at h
  obtain⟨x,h1,h2⟩:=Option.bind_eq_some_iff.1 h
  exact revOut_u os (i+1) h2 (zao h1 hu)
theorem zbn: ∀ (ss:List S81) (tl:List Int) (w:List S81),allU ss→allU w→allU (zaf ss tl w).1
 | [],_,_,_,hw=>hw
 |s::ss,tl,w,hs,hw=>zbn ss _ _ (fun x hx=>hs x (List.mem_cons_of_mem _ hx)) (zbf hw (hs s (List.mem_cons_self ..)))
theorem fSum_u{st:List S81}{q:Int×List S81}{k a b:Int}(h:fSum st k a b=some q)(hu:allU st):allU q.2:=by
 unfold fSum at h
 split at h
 ·obtain rfl:=Option.some.inj h;exact hu
 ·split at h
  ·obtain rfl:=Option.some.inj h;exact hu
  ·split at h
   ·obtain⟨s,h1,h2⟩:=Option.bind_eq_some_iff.1 h;obtain rfl:=Option.some.inj h2;exact zbb h1 hu
   ·obtain⟨s,h1,h2⟩:=Option.bind_eq_some_iff.1 h;obtain rfl:=Option.some.inj h2;exact zbb h1 hu
theorem zba{st:List S81}{q:Int×List S81}{k a b:Int}(h:fTimes st k a b=some q)(hu:allU st):allU q.2:=by
 unfold fTimes at h
 split at h
 ·obtain rfl:=Option.some.inj h;exact hu
 ·obtain⟨s,h1,h2⟩:=Option.bind_eq_some_iff.1 h;obtain rfl:=Option.some.inj h2;exact zbb h1 hu
theorem fwdStep_u{to_ sl:List Int}{s:S81}{i:Nat}{st:List S81}{q:Int×List S81}(h:fwdStep to_ sl s i st=some q)(hu:allU st):allU q.2:=by
 unfold fwdStep at h
 split at h
 ·obtain⟨x,_,h⟩:=Option.bind_eq_some_iff.1 h
  obtain⟨y,_,h⟩:=Option.bind_eq_some_iff.1 h
  exact fSum_u h hu
 ·split at h
  ·obtain⟨x,_,h⟩:=Option.bind_eq_some_iff.1 h
   exact fSum_u h hu
  ·split at h
   ·obtain⟨x,_,h⟩:=Option.bind_eq_some_iff.1 h
    obtain⟨y,_,h⟩:=Option.bind_eq_some_iff.1 h
    obtain⟨z,h1,h⟩:=Option.bind_eq_some_iff.1 h
    obtain⟨x2,_,h⟩:=Option.bind_eq_some_iff.1 h
    obtain⟨y2,_,h⟩:=Option.bind_eq_some_iff.1 h
    obtain⟨z2,h2,h⟩:=Option.bind_eq_some_iff.1 h
    exact fSum_u h (zba h2 (zba h1 hu))
   ·split at h
    ·obtain⟨x,_,h⟩:=Option.bind_eq_some_iff.1 h
     obtain⟨y,_,h⟩:=Option.bind_eq_some_iff.1 h
     obtain⟨z,_,h⟩:=Option.bind_eq_some_iff.1 h
     obtain⟨x2,h1,h⟩:=Option.bind_eq_some_iff.1 h
     obtain⟨y2,h2,h⟩:=Option.bind_eq_some_iff.1 h
     obtain⟨z2,_,h⟩:=Option.bind_eq_some_iff.1 h
     exact zba h (fSum_u h2 (zba h1 hu))
    ·obtain rfl:=Option.some.inj h;exact hu
theorem fwdLoop_u{to_:List Int} : ∀ (ts:List S81) (x:Nat) (sl:List Int) (st:List S81) {q:List Int×List S81},fwdLoop to_ ts x sl st=some q→allU st→allU q.2
 | [],_,_,_,_,h,hu=>by rw[fwdLoop]at h;obtain rfl:=Option.some.inj h;exact hu
 |s::ts,x,sl,st,_,h,hu=>by
  rw[fwdLoop]at h
  obtain⟨y,h1,h2⟩:=Option.bind_eq_some_iff.1 h
  exact fwdLoop_u ts _ _ _ h2 (fwdStep_u h1 hu)
theorem wholeT_f{n:Nat}(h:n< 9223372036854775808):Ev (fun k=>tape_whole.f k (n:Int)) (zbj false n 1):=by
 have l:(digN n).length≤2:=len_digN_le (by omega)
 have l1:(digN 1).length≤2:=len_digN_le (by omega)
 have hq:=quotient_f (neg:=false) (canon_digN n) (canon_digN 1) (by omega) (by omega)
 rw[val_digN,val_digN]at hq
 unfold tape_whole.f frac_Of.f
 exact Ev.bind (Ev.bind (size_f h) (Ev.bind (size_f (n:=1) (by decide)) (Ev.bind hq (Ev.now _)))) (Ev.now _)
theorem whole0:Ev (fun k=>tape_whole.f k 0) ((0:Int),false,([] :List Int),([1] :List Int)):=by
 have h:=wholeT_f (n:=0) (by decide)
 rw[ratioR_zero1]at h
 exact h
theorem lit0_form:formB ⟨2,0,0,⟨0,false,[],[1]⟩⟩ false=true:=by
 have h:zam 0 false [] [1] =true:=by
  have:=valid_zero
  first
   |exact this
   |rfl
   |decide
 unfold formB
 rw[if_pos (by decide)]
 show(if badF 2 0 0 false=true then false else if(2:Int)=2 then(zam 0 false [] [1] && ((0:Int)==0))else _)=true
 rw[show badF 2 0 0 false=false from rfl,if_neg (by decide),if_pos rfl,h]
 rfl
theorem zak{m:Int} : ∀ (ws:List Int) (z:Int) (st:List S81) (out:List Int),errL m st 0=0→m≤(st.length:Int)→st.length+ (if z= -1 then 1 else 0)≤900000→wOk st.length z→(∀x∈ws,wOk st.length x)→(∀x∈out,0≤x∧x< (st.length:Int))→allU st→
  ∃q:List S81×List Int,Ev (fun k=>revTail k ws z st out) q∧errL m q.1 0=0∧st.length≤q.1.length∧q.1.length≤st.length+ (if z= -1 then 1 else 0)∧q.2.length=out.length+ws.length∧(∀x∈q.2,0≤x∧x< (q.1.length:Int))∧allU q.1
 | [],z,st,out,h,hm,_,_,_,ho,hu=>⟨(st,out),Ev.is rfl,h,Nat.le_refl _,Nat.le_add_right _ _,rfl,ho,hu⟩
 |w::ws,z,st,out,h,hm,hl,hz,hws,ho,hu=>by
  have hw:=hws w (List.mem_cons_self ..)
  have hws2: ∀x∈ws,wOk st.length x:=fun x hx=>hws x (List.mem_cons_of_mem _ hx)
  by_cases e:w= -1
  ·by_cases ez:z= -1
   ·rw[if_pos ez]at hl
    have h2:errL m (st++ [⟨2,0,0,⟨0,false,[],[1]⟩⟩]) 0=0:=errL_snoc h hm lit0_form rfl
    obtain⟨q,a1,a2,a3,a4,a5,a6,a7⟩:=zak (m:=m) ws (st.length:Int) (st++ [⟨2,0,0,⟨0,false,[],[1]⟩⟩]) (out++ [(st.length:Int)]) h2 (by rw[zaa];omega) (by rw[if_neg (by omega),zaa];omega) (.inr ⟨by omega,by rw[zaa];omega⟩) (fun x hx=>(hws2 x hx).mono (by rw[zaa];omega)) (fun x hx=>by
     rcases List.mem_append.1 hx with h1|h1
     ·have:=ho x h1;rw[zaa];omega
     ·rw[List.mem_singleton.1 h1,zaa];omega) (zbf hu u32R_lit0)
    rw[zaa]at a3 a4
    rw[if_neg (by omega)]at a4
    refine⟨q,?_,a2,by omega,by rw[if_pos ez];omega,by rw[a5,zaa,List.length_cons];omega,a6,a7⟩
    refine Ev.congr (fun k=>by rw[revTail]) (Ev.yes e (Ev.bind (a:=((st.length:Int),st++ [⟨2,0,0,⟨0,false,[],[1]⟩⟩])) ?_ a1))
    unfold tZero
    refine Ev.yes ez (Ev.bind (a:=st++ [stepOf 2 0 0]) (Ev.con (by unfold tAdd;rw[if_pos (by omega)])) (Ev.bind whole0 (Ev.is rfl)))
   ·have hz2:0≤z∧z< (st.length:Int):=by
     rcases hz with h1|h1
     ·exact absurd h1 ez
     ·exact h1
    obtain⟨q,a1,a2,a3,a4,a5,a6,a7⟩:=zak (m:=m) ws z st (out++ [z]) h hm hl hz hws2 (fun x hx=>by
     rcases List.mem_append.1 hx with h1|h1
     ·exact ho x h1
     ·rw[List.mem_singleton.1 h1];exact hz2) hu
    refine⟨q,Ev.congr (fun k=>by rw[revTail]) (Ev.yes e (Ev.bind (a:=(z,st)) (Ev.congr (f:=fun _=>some (z,st)) (fun k=>by unfold tZero;rw[if_neg ez]) (Ev.is rfl)) a1)),a2,a3,a4,by rw[a5,zaa,List.length_cons];omega,a6,a7⟩
  ·have hw2:0≤w∧w< (st.length:Int):=by
    rcases hw with h1|h1
    ·exact absurd h1 e
    ·exact h1
   obtain⟨q,a1,a2,a3,a4,a5,a6,a7⟩:=zak (m:=m) ws z st (out++ [w]) h hm hl hz hws2 (fun x hx=>by
    rcases List.mem_append.1 hx with h1|h1
    ·exact ho x h1
    ·rw[List.mem_singleton.1 h1];exact hw2) hu
   exact⟨q,Ev.congr (fun k=>by rw[revTail]) (Ev.no e a1),a2,a3,a4,by rw[a5,zaa,List.length_cons];omega,a6,a7⟩
theorem zau{n:Int} : ∀ (j:Nat) (ss:List S81) (i:Nat),errL n ss i=0→errL n (ss.drop j) (i+j)=0
 |0,ss,i,h=>h
 |j+1,[],i,_=>rfl
 |j+1,s::ss,i,h=>by
  rw[List.drop_succ_cons,show i+ (j+1)=i+1+j from by omega]
  exact zau j ss (i+1) (zbe h).2.2
theorem errT_L{n:Int}{ss:List S81}{os:List Int}(h:errT n ss os=0):errL n ss 0=0:=by
 unfold errT at h
 split at h
 ·cases h
 ·split at h
  ·cases h
  ·split at h
   ·cases h
   ·split at h
    ·cases h
    ·split at h
     ·assumption
     ·exact h
theorem errT_mk{m:Int}{ss:List S81}{os:List Int}(h1:ss.length≤262144)(h2:os.length≤32768)(h3:0≤m)(h4:m≤(ss.length:Int))(h5:errL m ss 0=0)(h6: ∀x∈os,0≤x∧x< (ss.length:Int)):errT m ss os=0:=by
 unfold errT
 rw[if_neg (by omega),if_neg (by omega),if_neg (by omega),if_neg (by omega),if_pos h5,if_neg]
 intro h
 obtain⟨x,hx,hx2⟩:=List.any_eq_true.1 h
 have h7:=h6 x hx
 rw[in_of h7.1 h7.2]at hx2
 cases hx2
theorem iota_map(n:Nat):((List.range n).map fun j:Nat=>(j:Int))=iota n:=rfl
theorem reverse_f{N:Nat}{ss:List S81}{os:List Int}(he:errT (N:Int) ss os=0)(hs:ss.length≤2000)(ho:os.length≤2000)(hu: ∀s∈ss,u32R s.f3):
  ∃ (st:List S81) (out:List Int),Ev (fun k=>tape_reverse.f k (N:Int) ss os) ((N:Int) + (os.length:Int),st,out)∧errT ((N:Int) + (os.length:Int)) st out=0∧st.length≤5 * ss.length+2 * os.length+1∧out.length=N∧allU st:=by
 obtain⟨_,h1,hok,hout⟩:=zbd he
 have hL:=errT_L he
 have hd:=zau N ss 0 hL
 rw[Nat.zero_add]at hd
 have hw0:tInputs (N+os.length) [] =List.replicate (N+os.length) (stepOf 1 0 0):=rfl
 have hin:=zbc (m:=((N+os.length:Nat):Int)) (N+os.length) 0 (by omega)
 have hil:(iota N).length=N:=by unfold iota;rw[List.length_map,List.length_range]
 have hc:=zbq (m:=(N:Int)) (ss.drop N) N (iota N) (tInputs (N+os.length) []) hd hil (fun s h=>hu s (List.mem_of_mem_drop h)) (by rw[hw0,List.length_replicate,List.length_drop];omega)
 obtain⟨b1,b2,b3,b4⟩:=join_ok (n:=((N+os.length:Nat):Int)) (m:=N) (ss.drop N) N (iota N) (tInputs (N+os.length) []) (Nat.le_refl _) hil (fun i hi=>by rw[iota_at hi,hw0,List.length_replicate];omega) (by rw[hw0,List.length_replicate];omega) (by rw[hw0];exact hin) hd
 generalize hj:zaf (ss.drop N) (iota N) (tInputs (N+os.length) [])=jg at hc b1 b2 b3 b4
 rw[hw0,List.length_replicate,List.length_drop]at b2
 rw[List.length_drop]at b3 b4
 have hto: ∀x∈jg.2,0≤x∧x< (jg.1.length:Int):=fun x hx=>by
  obtain⟨i,hi,rfl⟩:=List.getElem_of_mem hx
  have:=b4 i (by omega)
  rwa [List.getD_eq_getElem?_getD,List.getElem?_eq_getElem hi]at this
 have hi0:RevInv ((N+os.length:Nat):Int) ss.length (jg.1,List.replicate ss.length (-1)):=⟨b1,by show _≤(jg.1.length:Int);omega,List.length_replicate,fun x hx=> .inl (List.mem_replicate.1 hx).2⟩
 obtain⟨q0,c1,c2,c3,c4⟩:=zbs (n:=N) os 0 _ hi0 hout (by omega) (by show jg.1.length+_≤_;omega)
 have c3':jg.1.length≤q0.1.length:=c3
 have c4':q0.1.length≤jg.1.length+os.length:=c4
 obtain⟨q1,d1,d2,d3,d4⟩:=zbi (n:=N) hok rfl (by omega:jg.2.length=ss.length) (ss.length - N) q0 c2 (by omega) (fun x hx=>by have:=hto x hx;omega) (by omega)
 have d2l:=d2.len
 have hU:allU q1.1:=revLoop_u (ss.length - N) d1 (revOut_u os 0 c1 (show allU jg.1 from by rw[←hj];exact zbn _ _ _ (fun s h=>hu s (List.mem_of_mem_drop h)) (zbg _)))
 obtain⟨q2,e1,e2,e3,e4,e5,e6,e7⟩:=zak (m:=((N+os.length:Nat):Int)) (q1.2.take N) (-1) q1.1 [] d2.ok d2.ge (by rw[if_pos rfl];omega) (.inl rfl) (fun x hx=>d2.ws x (List.mem_of_mem_take hx)) (fun x hx=>by simp at hx) hU
 rw[if_pos rfl]at e4
 have e5':q2.2.length=N:=by rw[e5,List.length_take];simp;omega
 refine⟨q2.1,q2.2,?_,?_,by omega,e5',e7⟩
 ·unfold tape_reverse.f
  rw[Int.toNat_natCast,iota_map,hc]
  refine Ev.yes ⟨⟨by omega,h1⟩,by omega,by omega⟩ ?_
  simp only[Option.bind_some]
  rw[c1]
  simp only[Option.bind_some]
  rw[d1]
  simp only[Option.bind_some]
  exact Ev.bind e1 (Ev.is rfl)
 ·have hg:=d2.ge
  exact errT_mk (by omega) (by omega) (by omega) (by omega) (by rw[show(N:Int) + (os.length:Int)=((N+os.length:Nat):Int)from by omega];exact e2) e6
theorem zal{l:List Int}{i:Int}(h:0≤i∧i< (l.length:Int)):rdO l i=some (rd l i):=by unfold rdO;rw[if_pos h]
structure FwdOk (m:Int) (L M:Nat) (q:Int×List S81):Prop where
 ok:errL m q.2 0=0
 ge:m≤(q.2.length:Int)
 sl:wOk q.2.length q.1
 lo:L≤q.2.length
 hi:q.2.length≤M
section
variable {m:Int} {st:List S81}
theorem zbo{k a b:Int}(h:errL m st 0=0)(hm:m≤(st.length:Int))(hl:st.length≤1000000)(hk:k=3∨k=4)(ha:wOk st.length a)(hb:wOk st.length b): ∃q,fSum st k a b=some q∧FwdOk m st.length (st.length+1) q:=by
 unfold fSum
 by_cases eb:b= -1
 ·rw[if_pos eb];exact⟨_,rfl,h,hm,ha,Nat.le_refl _,Nat.le_succ _⟩
 rw[if_neg eb]
 have hb':0≤b∧b< (st.length:Int):=hb.elim (fun e=>absurd e eb) id
 by_cases ea:a= -1∧k=3
 ·rw[if_pos ea];exact⟨_,rfl,h,hm,hb,Nat.le_refl _,Nat.le_succ _⟩
 rw[if_neg ea]
 by_cases ea1:a= -1
 ·rw[if_pos ea1]
  obtain⟨h1,h2⟩:=zap (k:=7) (b:=0) h hm hl (by omega) (by omega) hb' (.inl ⟨rfl,rfl⟩)
  rw[h1,Option.bind_some]
  exact⟨_,rfl,h2,by show _≤(((st++ [stepOf 7 b 0]).length:Nat):Int);rw[zaa];omega,.inr ⟨by show(0:Int)≤(st.length:Int);omega,by show(st.length:Int)< (((st++ [stepOf 7 b 0]).length:Nat):Int);rw[zaa];omega⟩,by show _≤(st++ [stepOf 7 b 0]).length;rw[zaa];omega,by show(st++ [stepOf 7 b 0]).length≤_;rw[zaa];omega⟩
 ·rw[if_neg ea1]
  have ha':0≤a∧a< (st.length:Int):=ha.elim (fun e=>absurd e ea1) id
  obtain⟨h1,h2⟩:=zap (k:=k) (b:=b) h hm hl (by omega) (by omega) ha' (.inr ⟨by omega,hb'⟩)
  rw[h1,Option.bind_some]
  exact⟨_,rfl,h2,by show _≤(((st++ [stepOf k a b]).length:Nat):Int);rw[zaa];omega,.inr ⟨by show(0:Int)≤(st.length:Int);omega,by show(st.length:Int)< (((st++ [stepOf k a b]).length:Nat):Int);rw[zaa];omega⟩,by show _≤(st++ [stepOf k a b]).length;rw[zaa];omega,by show(st++ [stepOf k a b]).length≤_;rw[zaa];omega⟩
theorem zar{k a b:Int}(h:errL m st 0=0)(hm:m≤(st.length:Int))(hl:st.length≤1000000)(hk:k=5∨k=6)(ha:wOk st.length a)(hb:0≤b∧b< (st.length:Int)): ∃q,fTimes st k a b=some q∧FwdOk m st.length (st.length+1) q:=by
 unfold fTimes
 by_cases ea1:a= -1
 ·rw[if_pos ea1];exact⟨_,rfl,h,hm,.inl rfl,Nat.le_refl _,Nat.le_succ _⟩
 ·rw[if_neg ea1]
  have ha':0≤a∧a< (st.length:Int):=ha.elim (fun e=>absurd e ea1) id
  obtain⟨h1,h2⟩:=zap (k:=k) (b:=b) h hm hl (by omega) (by omega) ha' (.inr ⟨by omega,hb⟩)
  rw[h1,Option.bind_some]
  exact⟨_,rfl,h2,by show _≤(((st++ [stepOf k a b]).length:Nat):Int);rw[zaa];omega,.inr ⟨by show(0:Int)≤(st.length:Int);omega,by show(st.length:Int)< (((st++ [stepOf k a b]).length:Nat):Int);rw[zaa];omega⟩,by show _≤(st++ [stepOf k a b]).length;rw[zaa];omega,by show(st++ [stepOf k a b]).length≤_;rw[zaa];omega⟩
theorem fwdStep_ok{to_ sl:List Int}{s:S81}{i:Nat}(h:errL m st 0=0)(hm:m≤(st.length:Int))(hl:st.length≤900000)(hs:zbr i s)(hsl:sl.length=i)(hto:i< to_.length)(ht: ∀x∈to_,0≤x∧x< (st.length:Int))(hw: ∀x∈sl,wOk st.length x):
  ∃q,fwdStep to_ sl s i st=some q∧FwdOk m st.length (st.length+3) q:=by
 obtain⟨hk,hA,hB⟩:=hs
 have two:(3≤s.f0∧s.f0≤6)→(0≤s.f1∧s.f1< (i:Int))∧(0≤s.f2∧s.f2< (i:Int)):=fun h'=>⟨hA (by unfold hasA;rw[decide_eq_true h'.1,decide_eq_true (by omega:s.f0≤7)];rfl),hB (by unfold hasB;rw[decide_eq_true h'.1,decide_eq_true h'.2];rfl)⟩
 have slo: ∀ {j:Int},0≤j∧j< (i:Int)→ ∀ {w:List S81},st.length≤w.length→wOk w.length (rd sl j):=fun hj _ hw2=>(hw _ (zaw hj.1 (by omega))).mono hw2
 have tom: ∀ {j:Int},0≤j∧j≤(i:Int)→ ∀ {w:List S81},st.length≤w.length→0≤rd to_ j∧rd to_ j< (w.length:Int):=fun hj _ hw2=>by have:=ht _ (zaw (l:=to_) hj.1 (by omega));omega
 unfold fwdStep
 by_cases e3:s.f0=3∨s.f0=4
 ·rw[if_pos e3]
  have h2:=two (by omega)
  rw[zal (by omega),Option.bind_some,zal (by omega),Option.bind_some]
  obtain⟨q,a1,a2⟩:=zbo (k:=s.f0) h hm (by omega) e3 (slo h2.1 (Nat.le_refl _)) (slo h2.2 (Nat.le_refl _))
  exact⟨q,a1,a2.ok,a2.ge,a2.sl,a2.lo,by have:=a2.hi;omega⟩
 rw[if_neg e3]
 by_cases e7:s.f0=7
 ·rw[if_pos e7]
  have h2:=hA (by unfold hasA;rw[e7];rfl)
  rw[zal (by omega),Option.bind_some]
  obtain⟨q,a1,a2⟩:=zbo (k:=4) h hm (by omega) (.inr rfl) (.inl rfl) (slo h2 (Nat.le_refl _))
  exact⟨q,a1,a2.ok,a2.ge,a2.sl,a2.lo,by have:=a2.hi;omega⟩
 rw[if_neg e7]
 by_cases e5:s.f0=5
 ·rw[if_pos e5]
  have h2:=two (by omega)
  rw[zal (by omega),Option.bind_some,zal (by omega),Option.bind_some]
  obtain⟨q,a1,a2⟩:=zar (k:=5) h hm (by omega) (.inl rfl) (slo h2.1 (Nat.le_refl _)) (tom (j:=s.f2) (by omega) (Nat.le_refl _))
  have l1:=a2.lo
  have l2:=a2.hi
  rw[a1,Option.bind_some,zal (by omega),Option.bind_some,zal (by omega),Option.bind_some]
  obtain⟨q2,b1,b2⟩:=zar (k:=5) a2.ok a2.ge (by omega) (.inl rfl) (slo h2.2 l1) (tom (j:=s.f1) (by omega) l1)
  have l3:=b2.lo
  have l4:=b2.hi
  rw[b1,Option.bind_some]
  obtain⟨q3,c1,c2⟩:=zbo (k:=3) b2.ok b2.ge (by omega) (.inl rfl) (a2.sl.mono l3) b2.sl
  exact⟨q3,c1,c2.ok,c2.ge,c2.sl,by have:=c2.lo;omega,by have:=c2.hi;omega⟩
 rw[if_neg e5]
 by_cases e6:s.f0=6
 ·rw[if_pos e6]
  have h2:=two (by omega)
  rw[zal (by omega),Option.bind_some,zal (by omega),Option.bind_some,zal (by omega),Option.bind_some]
  obtain⟨q,a1,a2⟩:=zar (k:=5) h hm (by omega) (.inl rfl) (slo h2.2 (Nat.le_refl _)) (tom (j:=(i:Int)) (by omega) (Nat.le_refl _))
  have l1:=a2.lo
  have l2:=a2.hi
  rw[a1,Option.bind_some]
  obtain⟨r,b1,b2⟩:=zbo (k:=4) a2.ok a2.ge (by omega) (.inr rfl) (slo h2.1 l1) a2.sl
  have l3:=b2.lo
  have l4:=b2.hi
  rw[b1,Option.bind_some,zal (by omega),Option.bind_some]
  obtain⟨q3,c1,c2⟩:=zar (k:=6) b2.ok b2.ge (by omega) (.inr rfl) b2.sl (tom (j:=s.f2) (by omega) (Nat.le_trans l1 l3))
  exact⟨q3,c1,c2.ok,c2.ge,c2.sl,by have:=c2.lo;omega,by have:=c2.hi;omega⟩
 rw[if_neg e6]
 exact⟨_,rfl,h,hm,.inl rfl,Nat.le_refl _,by show st.length≤_;omega⟩
theorem zbk{to_:List Int} : ∀ (ts:List S81) (x:Nat) (sl:List Int) (st:List S81),zaj x ts→sl.length=x→x+ts.length≤to_.length→errL m st 0=0→m≤(st.length:Int)→st.length+3 * ts.length≤900000→(∀y∈to_,0≤y∧y< (st.length:Int))→(∀y∈sl,wOk st.length y)→
  ∃q,fwdLoop to_ ts x sl st=some q∧errL m q.2 0=0∧m≤(q.2.length:Int)∧st.length≤q.2.length∧q.2.length≤st.length+3 * ts.length∧q.1.length=x+ts.length∧(∀y∈q.1,wOk q.2.length y)
 | [],x,sl,st,_,hx,_,h,hm,_,_,hw=>⟨(sl,st),rfl,h,hm,Nat.le_refl _,Nat.le_add_right _ _,hx,hw⟩
 |s::ts,x,sl,st,hok,hx,hto,h,hm,hl,ht,hw=>by
  rw[List.length_cons]at hto hl
  obtain⟨q,a1,a2⟩:=fwdStep_ok (to_:=to_) (sl:=sl) (i:=x) h hm (by omega) hok.1 hx (by omega) ht hw
  have l1:=a2.lo
  have l2:=a2.hi
  rw[fwdLoop,a1,Option.bind_some]
  obtain⟨r,b1,b2,b3,b4,b5,b6,b7⟩:=zbk (to_:=to_) ts (x+1) (sl++ [q.1]) q.2 hok.2 (by rw[zaa,hx]) (by omega) a2.ok a2.ge (by omega) (fun y hy=>by have:=ht y hy;omega) (fun y hy=>by
   rcases List.mem_append.1 hy with h1|h1
   ·exact(hw y h1).mono l1
   ·rw[List.mem_singleton.1 h1];exact a2.sl)
  exact⟨r,b1,b2,b3,by omega,by rw[List.length_cons];omega,by rw[b6,List.length_cons];omega,b7⟩
end
theorem zav: ∀ (j:Nat) (l:List S81) (x:Nat),zaj x l→zaj (x+j) (l.drop j)
 |0,_,_,h=>h
 |j+1,[],_,_=>by rw[List.drop_nil];trivial
 |j+1,s::l,x,h=>by
  rw[List.drop_succ_cons,show x+ (j+1)=x+1+j from by omega]
  exact zav j l (x+1) h.2
theorem forward_f{N:Nat}{ss:List S81}{os:List Int}(he:errT (N:Int) ss os=0)(hs:ss.length≤2000)(ho:os.length≤2000)(hu: ∀s∈ss,u32R s.f3):
  ∃ (st:List S81) (out:List Int),Ev (fun k=>tape_forward.f k (N:Int) ss os) (2 * (N:Int),st,out)∧errT (2 * (N:Int)) st out=0∧st.length≤5 * ss.length+1∧out.length=2 * os.length∧allU st:=by
 obtain⟨_,h1,hok,hout⟩:=zbd he
 have hL:=errT_L he
 have hd:=zau N ss 0 hL
 rw[Nat.zero_add]at hd
 have hw0:tInputs (2 * N) [] =List.replicate (2 * N) (stepOf 1 0 0):=rfl
 have hin:=zbc (m:=((2 * N:Nat):Int)) (2 * N) 0 (by omega)
 have hil:(iota N).length=N:=by unfold iota;rw[List.length_map,List.length_range]
 have hc:=zbq (m:=(N:Int)) (ss.drop N) N (iota N) (tInputs (2 * N) []) hd hil (fun s h=>hu s (List.mem_of_mem_drop h)) (by rw[hw0,List.length_replicate,List.length_drop];omega)
 obtain⟨b1,b2,b3,b4⟩:=join_ok (n:=((2 * N:Nat):Int)) (m:=N) (ss.drop N) N (iota N) (tInputs (2 * N) []) (Nat.le_refl _) hil (fun i hi=>by rw[iota_at hi,hw0,List.length_replicate];omega) (by rw[hw0,List.length_replicate];omega) (by rw[hw0];exact hin) hd
 generalize hj:zaf (ss.drop N) (iota N) (tInputs (2 * N) [])=jg at hc b1 b2 b3 b4
 rw[hw0,List.length_replicate,List.length_drop]at b2
 rw[List.length_drop]at b3 b4
 have hto: ∀x∈jg.2,0≤x∧x< (jg.1.length:Int):=fun x hx=>by
  obtain⟨i,hi,rfl⟩:=List.getElem_of_mem hx
  have:=b4 i (by omega)
  rwa [List.getD_eq_getElem?_getD,List.getElem?_eq_getElem hi]at this
 have hokd:=zav N ss 0 hok
 rw[Nat.zero_add]at hokd
 have hshl:(shiftI N).length=N:=by unfold shiftI;rw[List.length_map,List.length_range]
 obtain⟨q1,d1,d2,d3,d4,d5,d6,d7⟩:=zbk (m:=((2 * N:Nat):Int)) (to_:=jg.2) (ss.drop N) N (shiftI N) jg.1 hokd hshl (by rw[List.length_drop];omega) b1 (by omega) (by rw[List.length_drop];omega) hto (fun y hy=>by
  unfold shiftI at hy
  obtain⟨j,hj1,rfl⟩:=List.mem_map.1 hy
  have:=List.mem_range.1 hj1
  exact .inr ⟨by omega,by omega⟩)
 rw[List.length_drop]at d5 d6
 have hob: ∀o∈os,0≤o∧o< (jg.2.length:Int)∧o< (q1.1.length:Int):=fun o h=>by have:=hout o h;omega
 have hU:allU q1.2:=fwdLoop_u (ss.drop N) N (shiftI N) jg.1 d1 (show allU jg.1 from by rw[←hj];exact zbn _ _ _ (fun s h=>hu s (List.mem_of_mem_drop h)) (zbg _))
 obtain⟨q2,e1,e2,e3,e4,e5,e6,e7⟩:=zak (m:=((2 * N:Nat):Int)) (os.map (rd q1.1)) (-1) q1.2 (os.map (rd jg.2)) d2 d3 (by rw[if_pos rfl];omega) (.inl rfl) (fun x hx=>by
  obtain⟨o,ho1,rfl⟩:=List.mem_map.1 hx
  have:=hob o ho1
  exact d7 _ (zaw this.1 this.2.2)) (fun x hx=>by
  obtain⟨o,ho1,rfl⟩:=List.mem_map.1 hx
  have:=hob o ho1
  have:=hto _ (zaw this.1 this.2.1)
  omega) hU
 rw[if_pos rfl]at e4
 rw[List.length_map,List.length_map]at e5
 refine⟨q2.1,q2.2,?_,?_,by omega,by omega,e7⟩
 ·unfold tape_forward.f
  rw[Int.toNat_natCast,iota_map,hc]
  refine Ev.yes ⟨⟨by omega,h1⟩,by omega,by omega⟩ ?_
  simp only[Option.bind_some]
  rw[d1]
  simp only[Option.bind_some]
  exact Ev.yes hob (Ev.bind e1 (Ev.is rfl))
 ·exact errT_mk (by omega) (by omega) (by omega) (by omega) (by rw[show 2 * (N:Int)=((2 * N:Nat):Int)from by omega];exact e2) e6
theorem w64c{x:Int}(h0: -1000000000≤x)(h1:x≤1000000000):wrap64 x=x:=by unfold wrap64;omega
theorem cutG_l0{n:Int}{ss:List S81}{os ol:List Int}{L:Nat}(hL:L≤100000)(hu: ∀s∈ss,u32s s.f3.f2∧u32s s.f3.f3): ∀d i room (out:List S81),i+d=min ss.length L→out.length=i→(∀s∈out,u32R s.f3)→ ∃r:List S81,Ev (fun K=>fluxionref11_Cut.l0 K (L:Int) room (i:Int) n ss os n out ol) (n,r,ol)∧r.length≤L∧ ∀s∈r,u32R s.f3
 |0,i,room,out,hd,ho,hout=>by
  refine⟨out,Ev.step (f:=fun _=>some (n,out,ol)) (fun K=>?_) (Ev.is rfl),by omega,hout⟩
  rw[fluxionref11_Cut.l0]
  by_cases h1:(i:Int)< (ss.length:Int)
  ·rw[if_pos h1,if_neg (by omega)]
  ·rw[if_neg h1]
 |d+1,i,room,out,hd,ho,hout=>by
  have hlt:i< ss.length:=by omega
  have hrd:rd_T81 ss (i:Int)=ss[i] :=by unfold rd_T81;simp[hlt]
  have h1:=hu ss[i] (List.getElem_mem hlt)
  obtain⟨y,u,hy,hyu⟩:=cutRat_f h1.1 h1.2 room
  obtain⟨r,hr,hl,hru⟩:=cutG_l0 hL hu d (i+1) (wrap64 (room - u)) (out++ [⟨ss[i].f0,ss[i].f1,ss[i].f2,y⟩]) (by omega) (by rw[List.length_append,ho];rfl) (fun s hs=>by
   rcases List.mem_append.1 hs with h|h
   ·exact hout s h
   ·rw[List.mem_singleton.1 h];exact hyu)
  refine⟨r,Ev.step (fun K=>by rw[fluxionref11_Cut.l0]) (Ev.yes (by omega) (Ev.yes (by omega) (Ev.yes (by omega) ?_))),hl,hru⟩
  rw[hrd,hy]
  simp only[Option.bind_some]
  refine Ev.yes (by omega) ?_
  rw[wnx i (by omega)]
  exact hr
theorem cutG_f{n:Int}{ss:List S81}{os:List Int}{L:Nat}(hL:L≤100000)(room:Int)(hu: ∀s∈ss,u32s s.f3.f2∧u32s s.f3.f3): ∃ (sl:List S81) (ol:List Int),Ev (fun K=>fluxionref11_Cut.f K n ss os (L:Int) room) (n,sl,ol)∧sl.length≤L∧ol.length≤L∧ ∀s∈sl,u32R s.f3:=by
 have hm:mn (os.length:Int) (L:Int)=((min os.length L:Nat):Int):=by unfold mn;split<;>omega
 obtain⟨r,h1,h2,h3⟩:=cutG_l0 (n:=n) (os:=os) (ol:=([] :List Int) ++os.take (min os.length L)) hL hu (min ss.length L) 0 room [] (by omega) rfl (fun s hs=>by simp at hs)
 refine⟨r,[] ++os.take (min os.length L),?_,h2,by rw[List.nil_append,List.length_take];omega,h3⟩
 unfold fluxionref11_Cut.f
 rw[hm]
 simp only[Option.bind_some,Int.toNat_natCast]
 exact Ev.yes (by omega) (Ev.yes (by omega) (Ev.yes (by rw[List.length_nil,List.length_take];omega) h1))
theorem Reverse_f{n:Int}{ss:List S81}{os:List Int}(he:errT n ss os=0)(hs:ss.length≤2000)(ho:os.length≤2000)(hu: ∀s∈ss,u32R s.f3):
  ∃ (st:List S81) (out:List Int),Ev (fun k=>tape_Reverse.f k n ss os) (n+ (os.length:Int),st,out,(0:Int))∧errT (n+ (os.length:Int)) st out=0∧st.length≤5 * ss.length+2 * os.length+1∧(out.length:Int)=n∧allU st:=by
 obtain⟨h0,h1,_,_⟩:=zbd he
 obtain⟨N,rfl⟩: ∃N:Nat,n=(N:Int):=⟨n.toNat,by omega⟩
 obtain⟨st,out,a1,a2,a3,a4,a5⟩:=reverse_f he hs ho hu
 refine⟨st,out,?_,a2,a3,by omega,a5⟩
 unfold tape_Reverse.f
 have hw:wrap64 (wrap64 (wrap64 (5 * (ss.length:Int)) +wrap64 (2 * (os.length:Int))) +1)=5 * (ss.length:Int) +2 * (os.length:Int) +1:=by rw[w64c (x:=5 * (ss.length:Int)) (by omega) (by omega),w64c (x:=2 * (os.length:Int)) (by omega) (by omega),w64c (x:=5 * (ss.length:Int) +2 * (os.length:Int)) (by omega) (by omega),w64c (x:=5 * (ss.length:Int) +2 * (os.length:Int) +1) (by omega) (by omega)]
 have h5: ¬wrap64 (wrap64 (wrap64 (5 * (ss.length:Int)) +wrap64 (2 * (os.length:Int))) +1) >262144:=by rw[hw];omega
 have h6: ¬ (N:Int) >32768:=by omega
 refine Ev.bind (zae hu) (Ev.yes he ?_)
 simp only[if_neg h5,if_neg h6]
 exact Ev.bind a1 (Ev.is rfl)
theorem Forward_f{n:Int}{ss:List S81}{os:List Int}(he:errT n ss os=0)(hs:ss.length≤2000)(ho:os.length≤2000)(hu: ∀s∈ss,u32R s.f3):
  ∃ (st:List S81) (out:List Int),Ev (fun k=>tape_Forward.f k n ss os) (2 * n,st,out,(0:Int))∧errT (2 * n) st out=0∧st.length≤5 * ss.length+1∧out.length=2 * os.length∧allU st:=by
 obtain⟨h0,h1,_,_⟩:=zbd he
 obtain⟨N,rfl⟩: ∃N:Nat,n=(N:Int):=⟨n.toNat,by omega⟩
 obtain⟨st,out,a1,a2,a3,a4,a5⟩:=forward_f he hs ho hu
 refine⟨st,out,?_,a2,a3,a4,a5⟩
 unfold tape_Forward.f
 exact Ev.bind (zae hu) (Ev.no (by omega) (Ev.no (by omega) (Ev.bind a1 (Ev.is rfl))))
theorem tapeCheap_f{n:Int}{ss:List S81}{os:List Int}(hu: ∀s∈ss,u32s s.f3.f2∧u32s s.f3.f3):Ev (fun K=>fluxionlaw17_TapeCheap.f K n ss os) true:=by
 obtain⟨sl,ol,hc,hsl,hol,hcu⟩:=cutG_f (n:=n) (os:=os) (L:=200) (by decide) 40 hu
 unfold fluxionlaw17_TapeCheap.f
 have hcut:Ev (fun K=>fluxionlaw17_cut.f K n ss os 200) (n,sl,ol):=by
  unfold fluxionlaw17_cut.f
  exact Ev.bind hc (Ev.is rfl)
 refine Ev.bind hcut (Ev.bind (zae hcu) ?_)
 by_cases he:errT n sl ol=0
 ·refine Ev.yes he ?_
  obtain⟨h0,h1,_,_⟩:=zbd he
  obtain⟨st,out,a1,a2,a3,a4,a5⟩:=Reverse_f he (by omega) (by omega) hcu
  obtain⟨sf,of,b1,b2,b3,b4,b5⟩:=Forward_f he (by omega) (by omega) hcu
  refine Ev.bind a1 (Ev.bind b1 (Ev.bind (zae a5) (Ev.bind (zae b5) (Ev.yes ?_ (Ev.is rfl)))))
  refine⟨⟨⟨rfl,rfl⟩,a2,b2⟩,⟨hsl,hol,h0,?_⟩,⟨?_,?_⟩,⟨rfl,a4⟩,rfl,?_⟩
  ·show n≤200;omega
  ·show(st.length:Int)≤5 * (sl.length:Int) +2 * (ol.length:Int) +1;omega
  ·show(sf.length:Int)≤5 * (sl.length:Int) +1;omega
  ·show(of.length:Int)=2 * (ol.length:Int);omega
 ·exact Ev.no he (Ev.is rfl)
end Go.Proofs.YtdiflpfkoigmaaaGreatDoor.Pure
