-- written by a program of this session, after the kit's print
import Derived.Test.YtjjbondlcjnaiaaGreatPSparseSeedsx22
namespace Go.Proofs.YtjjbondlcjnaiaaGreat.PSparseSeeds
open Go.RowKit Go.Proofs.YtjjbondlcjnaiaaGreatW.PrintWords Go.Proofs.YtjjbondlcjnaiaaGreatW.PrintLast Go.Proofs.YtjjbondlcjnaiaaGreatW.PrintMore
set_option maxHeartbeats 8000000
set_option maxRecDepth 100000
attribute [local go_sem] max2_int min2_int max_two min_two max_three min_three max_four min_four
set_option linter.unusedVariables false
set_option linter.unusedSimpArgs false
mutual
def fluxionref14_Matrix.j0:Nat→List (List (S59))→Int→Bool→Option (Int)
 |0,_,_,_=>none
 |k+1,x0,x1,x18=>if x18=true then(some 2)else(fluxionref14_Matrix.l0 k x0 x1 0)
def fluxionref14_Matrix.l0:Nat→List (List (S59))→Int→Int→Option (Int)
 |0,_,_,_=>none
 |k+1,x0,x1,x5=>if x5< (x0.length:Int)then(if 0≤x5 then(if((rd_L5 x0 x5).length:Int)=x1 then(fluxionref14_Matrix.l0 k x0 x1 (wrap64 (x5+1)))else(some 2))else(none))else(fluxionref14_Matrix.l1 k x0 x1 0)
def fluxionref14_Matrix.l1:Nat→List (List (S59))→Int→Int→Option (Int)
 |0,_,_,_=>none
 |k+1,x0,x1,x6=>if x6< (x0.length:Int)then(fluxionref14_Matrix.l2 k x0 x1 x6 0)else(some 0)
def fluxionref14_Matrix.l2:Nat→List (List (S59))→Int→Int→Int→Option (Int)
 |0,_,_,_,_=>none
 |k+1,x0,x1,x6,x7=>if x7< x1 then(if 0≤x6 then(if x6< (x0.length:Int)then(if 0≤x7 then(if x7< ((rd_L5 x0 x6).length:Int)then((fluxionref02_IsRat.f k ((rd_T59 (rd_L5 x0 x6) x7).f0) ((rd_T59 (rd_L5 x0 x6) x7).f1) ((rd_T59 (rd_L5 x0 x6) x7).f2) ((rd_T59 (rd_L5 x0 x6) x7).f3)).bind fun t718=>(if t718=true then(fluxionref14_Matrix.l2 k x0 x1 x6 (wrap64 (x7+1)))else(some 5)))else(none))else(none))else(none))else(none))else(fluxionref14_Matrix.l1 k x0 x1 (wrap64 (x6+1)))
end
def fluxionref14_Matrix.f(k:Nat)(l0:List (List (S59)))(a1:Int):Option (Int):=if a1< 0 then(fluxionref14_Matrix.j0 k l0 a1 true)else(if a1 >4096 then(fluxionref14_Matrix.j0 k l0 a1 true)else(fluxionref14_Matrix.j0 k l0 a1 (decide ((l0.length:Int) >4096))))
theorem fluxionref14_Matrix.calls(k:Nat)(A0:Option Addr)(c0:Nat)(l0:List (List (S59)))(a1:Int)(r:Int)(w:World)(hr0:Kd.C (Kd.slice 59 k59) w A0 l0.length l0)(hc0:l0.length≤c0)(h:fluxionref14_Matrix.f k l0 a1=some r):
  Calls Tryz.prog 23 #[.slice A0 l0.length c0,.int .i64 a1] w fun e w'=>e= .returned (.int .i64 r)∧Below w.heap.size w w':=by
 have hu59:=Tryz.underlying59;have HR0:=Aside0.mk hr0;have HC0:=Aside0.mk hc0;clear hr0 hc0;have HB:=Aside0.mk (Below.refl w.heap.size w);have H:=h;clear h;unfold fluxionref14_Matrix.f at H;have HC3:=Aside0.mk H;clear H;go_enter Tryz.func23,Tryz.ntmps23
 go_upto_region 1 with (fail)
 go_cut [18] (fun v18 wc=> ∃ (kq:Nat) (x18_2:Bool),v18= .bool x18_2∧Aside0 (fluxionref14_Matrix.j0 kq l0 a1 x18_2=some r)∧Aside0 (kq≤k)∧Aside0 (Below w.heap.size w wc))
 case first=>
  have H:=HC3.out;clear HC3;by_cases c4:a1< 0
  ·rw[if_pos c4]at H;have c4b0:=decide_eq_true c4;clear c4;(first|rw[c4b0] | (simp only[i64_w,i32_w];rw[c4b0]) |skip);have H':=Aside0.mk H;clear H;go_wp2
   go_meet
   case rel=>exact⟨_,(true),eS,H',⟨by first|omega|exact Nat.le_refl _⟩,⟨bQ⟩⟩
  ·rw[if_neg c4]at H;have c4b0:=decide_eq_false c4;clear c4;(first|rw[c4b0] | (simp only[i64_w,i32_w];rw[c4b0]) |skip);by_cases c5:a1 >4096
   ·rw[if_pos c5]at H;have c5b0:=decide_eq_true c5;clear c5;have H':=Aside0.mk H;clear H;go_wp2
    go_meet
    case rel=>exact⟨_,(true),eS,H',⟨by first|omega|exact Nat.le_refl _⟩,⟨bQ⟩⟩
   ·rw[if_neg c5]at H;have c5b0:=decide_eq_false c5;clear c5;have H':=Aside0.mk H;clear H;go_wp2
    go_meet
    case rel=>exact⟨_,(decide ((l0.length:Int) >4096)),eS,H',⟨by first|omega|exact Nat.le_refl _⟩,⟨bQ⟩⟩
 case rest=>
  clear HC3;(try clear c2);(try clear p2);(try clear c4);(try clear c4b0);(try clear c5);(try clear c5b0);obtain⟨kq,x18_2,rfl,HA,HJ2,HB⟩:=hcut;cases kq with
  |zero=>exact absurd HA.out (by simp[fluxionref14_Matrix.j0])
  |succ kj2=>
   have H:=HA.out;clear HA;simp only[fluxionref14_Matrix.j0]at H;by_cases c6:x18_2=true
   ·subst c6;rw[if_pos rfl]at H;obtain rfl:=Option.some.inj H;go_wp2
    go_ret;exact⟨eQ,bQ⟩
   ·replace c6:=Bool.eq_false_iff.mpr c6;subst c6;rw[if_neg nF]at H;have H':=Aside0.mk H;clear H;go_wp2
    go_loopg [5] kj2 (fun kq v5 w'=> ∃ (x5_2:Int),v5= .int .i64 x5_2∧Aside0 (fluxionref14_Matrix.l0 kq l0 a1 x5_2=some r)∧Aside0 (kq≤kj2)∧Aside0 (Below w.heap.size w w'))
    case atStart=>exact⟨(0),eS,H',⟨Nat.le_refl _⟩,⟨bQ⟩⟩
    case round=>
     clear H';(try clear c2);(try clear p2);(try clear c4);(try clear c4b0);(try clear c5);(try clear c5b0);(try clear c6);(try clear p2);obtain⟨x5_2,rfl,HA,HK2,HB⟩:=hrel;cases gk with
     |zero=>exact absurd HA.out (by simp[fluxionref14_Matrix.l0])
     |succ k2=>
      have H:=HA.out;clear HA;simp only[fluxionref14_Matrix.l0]at H;by_cases c7:x5_2< (l0.length:Int)
      ·rw[if_pos c7]at H;have c7b0:=decide_eq_true c7;clear c7;replace H:=iN H;obtain⟨c8,H⟩:=H;have c8b0:=decide_eq_true c8;clear c8;by_cases c9:((rd_L5 l0 x5_2).length:Int)=a1
       ·rw[if_pos c9]at H;have c9b0:=beq_iff_eq.mpr c9;have c9b1:=bne_eq_false_iff_eq.mpr c9;clear c9;have H':=Aside0.mk H;clear H;have p715:0≤(x5_2:Int):=dQ;have q715:x5_2< (l0.length:Int):=dQ;obtain⟨ad715,A715_0,c715_0,e715,hx715_0,hl715_0,hi715_0⟩:=at_L5 HR0.out x5_2 p715 q715;cases e715;replace hx715_0:=cE HB.out hx715_0;have HR715_0:=Aside0.mk hi715_0;have HC715_0:=Aside0.mk hl715_0;clear hi715_0 hl715_0;replace p715:=eq_true p715;replace q715:=eq_true q715;go_wp2
        go_roundg k2
        case measure=>have:=HJ2.out;have:=HK2.out;omega
        case rel=>exact⟨(wrap64 (x5_2+1)),eS,H',⟨by have:=HJ2.out;have:=HK2.out;omega⟩,⟨bQ⟩⟩
       ·rw[if_neg c9]at H;have c9b0:=beq_eq_false_iff_ne.mpr c9;have c9b1:=bne_iff_ne.mpr c9;obtain rfl:=Option.some.inj H;have p715:0≤(x5_2:Int):=dQ;have q715:x5_2< (l0.length:Int):=dQ;obtain⟨ad715,A715_0,c715_0,e715,hx715_0,hl715_0,hi715_0⟩:=at_L5 HR0.out x5_2 p715 q715;cases e715;replace hx715_0:=cE HB.out hx715_0;have HR715_0:=Aside0.mk hi715_0;have HC715_0:=Aside0.mk hl715_0;clear hi715_0 hl715_0;replace p715:=eq_true p715;replace q715:=eq_true q715;go_wp2
        go_ret;exact⟨eQ,bQ⟩
      ·rw[if_neg c7]at H;have c7b0:=decide_eq_false c7;clear c7;have H':=Aside0.mk H;clear H;go_wp2
       go_loopg [6] k2 (fun kq v6 w'=> ∃ (x6_3:Int),v6= .int .i64 x6_3∧Aside0 (fluxionref14_Matrix.l1 kq l0 a1 x6_3=some r)∧Aside0 (kq≤k2)∧Aside0 (Below w.heap.size w w'))
       case atStart=>exact⟨(0),eS,H',⟨Nat.le_refl _⟩,⟨bQ⟩⟩
       case round=>
        clear H';(try clear c2);(try clear p2);(try clear c4);(try clear c4b0);(try clear c5);(try clear c5b0);(try clear c6);(try clear p6);(try clear c7);(try clear c7b0);(try clear p7);(try clear q7);(try clear hx7);(try clear c8);(try clear c8b0);(try clear c9);(try clear c9b0);(try clear c9b1);(try clear hx715_0);(try clear p2);(try clear p715);(try clear q715);obtain⟨x6_3,rfl,HA,HK3,HB⟩:=hrel;cases gk with
        |zero=>exact absurd HA.out (by simp[fluxionref14_Matrix.l1])
        |succ k3=>
         have H:=HA.out;clear HA;simp only[fluxionref14_Matrix.l1]at H;by_cases c10:x6_3< (l0.length:Int)
         ·rw[if_pos c10]at H;have c10b0:=decide_eq_true c10;clear c10;have H':=Aside0.mk H;clear H;go_wp2
          go_loopg [7] k3 (fun kq v7 w'=> ∃ (x7_4:Int),v7= .int .i64 x7_4∧Aside0 (fluxionref14_Matrix.l2 kq l0 a1 x6_3 x7_4=some r)∧Aside0 (kq≤k3)∧Aside0 (Below w.heap.size w w'))
          case atStart=>exact⟨(0),eS,H',⟨Nat.le_refl _⟩,⟨bQ⟩⟩
          case round=>
           clear H';(try clear c1);(try clear c2);(try clear p2);(try clear c4);(try clear c4b0);(try clear c5);(try clear c5b0);(try clear c6);(try clear p6);(try clear c7);(try clear c7b0);(try clear p7);(try clear q7);(try clear hx7);(try clear c8);(try clear c8b0);(try clear c9);(try clear c9b0);(try clear c9b1);(try clear c10);(try clear c10b0);(try clear hx715_0);(try clear p2);(try clear p6);(try clear p7);(try clear p715);(try clear q7);(try clear q715);obtain⟨x7_4,rfl,HA,HK4,HB⟩:=hrel;cases gk with
           |zero=>exact absurd HA.out (by simp[fluxionref14_Matrix.l2])
           |succ k4=>
            have H:=HA.out;clear HA;simp only[fluxionref14_Matrix.l2]at H;by_cases c11:x7_4< a1
            ·rw[if_pos c11]at H;have c11b0:=decide_eq_true c11;clear c11;replace H:=iN H;obtain⟨c12,H⟩:=H;have c12b0:=decide_eq_true c12;clear c12;replace H:=iN H;obtain⟨c13,H⟩:=H;have c13b0:=decide_eq_true c13;clear c13;replace H:=iN H;obtain⟨c14,H⟩:=H;have c14b0:=decide_eq_true c14;clear c14;replace H:=iN H;obtain⟨c15,H⟩:=H;have c15b0:=decide_eq_true c15;clear c15;obtain⟨t718,A16,H⟩:=bO H;(try dsimp only at H);by_cases c17:t718=true
             ·subst c17;rw[if_pos rfl]at H;have H':=Aside0.mk H;clear H;have p716:0≤(x6_3:Int):=dQ;have q716:x6_3< (l0.length:Int):=dQ;obtain⟨ad716,A716_0,c716_0,e716,hx716_0,hl716_0,hi716_0⟩:=at_L5 HR0.out x6_3 p716 q716;cases e716;replace hx716_0:=cE HB.out hx716_0;have HR716_0:=Aside0.mk hi716_0;have HC716_0:=Aside0.mk hl716_0;clear hi716_0 hl716_0;replace p716:=eq_true p716;replace q716:=eq_true q716;have p717:0≤(x7_4:Int):=dQ;have q717:x7_4< ((rd_L5 l0 x6_3).length:Int):=dQ;obtain⟨ad717,A717_2,c717_2,A717_3,c717_3,e717,hx717_0,hx717_1,hx717_2,hx717_3,hl717_2,hi717_2,hl717_3,hi717_3⟩:=at_T59 HR716_0.out x7_4 p717 q717;cases e717;replace hx717_0:=cE HB.out hx717_0;replace hx717_1:=cE HB.out hx717_1;replace hx717_2:=cE HB.out hx717_2;replace hx717_3:=cE HB.out hx717_3;have HR717_2:=Aside0.mk hi717_2;have HC717_2:=Aside0.mk hl717_2;clear hi717_2 hl717_2;have HR717_3:=Aside0.mk hi717_3;have HC717_3:=Aside0.mk hl717_3;clear hi717_3 hl717_3;replace p717:=eq_true p717;replace q717:=eq_true q717;go_wp2_with (first| (refine gF 46 ?_;refine gl_ (some 50) Tryz.func46 #[.agg #[.int .i64 ((rd_T59 (rd_L5 l0 x6_3) x7_4).f0),.bool ((rd_T59 (rd_L5 l0 x6_3) x7_4).f1),.slice A717_2 ((rd_T59 (rd_L5 l0 x6_3) x7_4).f2).length c717_2,.slice A717_3 ((rd_T59 (rd_L5 l0 x6_3) x7_4).f3).length c717_3]] ?_;(with_reducible refine(fluxionref02_IsRat.calls k4 ((rd_T59 (rd_L5 l0 x6_3) x7_4).f0) ((rd_T59 (rd_L5 l0 x6_3) x7_4).f1) _ _ ((rd_T59 (rd_L5 l0 x6_3) x7_4).f2) _ _ ((rd_T59 (rd_L5 l0 x6_3) x7_4).f3) true _ (cbQ HR717_2 HB) HC717_2.out (cbQ HR717_3 HB) HC717_3.out A16.out).mono ?_);rintro e w18 ⟨rfl,hb⟩;refine⟨_,rfl,?_⟩;replace HB:=Aside0.mk (below_step bQ hb);(try clear hb)))
              go_roundg k4
              case measure=>have:=HJ2.out;have:=HK2.out;have:=HK3.out;have:=HK4.out;omega
              case rel=>exact⟨(wrap64 (x7_4+1)),eS,H',⟨by have:=HJ2.out;have:=HK2.out;have:=HK3.out;have:=HK4.out;omega⟩,⟨bQ⟩⟩
             ·replace c17:=Bool.eq_false_iff.mpr c17;subst c17;rw[if_neg nF]at H;obtain rfl:=Option.some.inj H;have p716:0≤(x6_3:Int):=dQ;have q716:x6_3< (l0.length:Int):=dQ;obtain⟨ad716,A716_0,c716_0,e716,hx716_0,hl716_0,hi716_0⟩:=at_L5 HR0.out x6_3 p716 q716;cases e716;replace hx716_0:=cE HB.out hx716_0;have HR716_0:=Aside0.mk hi716_0;have HC716_0:=Aside0.mk hl716_0;clear hi716_0 hl716_0;replace p716:=eq_true p716;replace q716:=eq_true q716;have p717:0≤(x7_4:Int):=dQ;have q717:x7_4< ((rd_L5 l0 x6_3).length:Int):=dQ;obtain⟨ad717,A717_2,c717_2,A717_3,c717_3,e717,hx717_0,hx717_1,hx717_2,hx717_3,hl717_2,hi717_2,hl717_3,hi717_3⟩:=at_T59 HR716_0.out x7_4 p717 q717;cases e717;replace hx717_0:=cE HB.out hx717_0;replace hx717_1:=cE HB.out hx717_1;replace hx717_2:=cE HB.out hx717_2;replace hx717_3:=cE HB.out hx717_3;have HR717_2:=Aside0.mk hi717_2;have HC717_2:=Aside0.mk hl717_2;clear hi717_2 hl717_2;have HR717_3:=Aside0.mk hi717_3;have HC717_3:=Aside0.mk hl717_3;clear hi717_3 hl717_3;replace p717:=eq_true p717;replace q717:=eq_true q717;go_wp2_with (first| (refine gF 46 ?_;refine gl_ (some 50) Tryz.func46 #[.agg #[.int .i64 ((rd_T59 (rd_L5 l0 x6_3) x7_4).f0),.bool ((rd_T59 (rd_L5 l0 x6_3) x7_4).f1),.slice A717_2 ((rd_T59 (rd_L5 l0 x6_3) x7_4).f2).length c717_2,.slice A717_3 ((rd_T59 (rd_L5 l0 x6_3) x7_4).f3).length c717_3]] ?_;(with_reducible refine(fluxionref02_IsRat.calls k4 ((rd_T59 (rd_L5 l0 x6_3) x7_4).f0) ((rd_T59 (rd_L5 l0 x6_3) x7_4).f1) _ _ ((rd_T59 (rd_L5 l0 x6_3) x7_4).f2) _ _ ((rd_T59 (rd_L5 l0 x6_3) x7_4).f3) false _ (cbQ HR717_2 HB) HC717_2.out (cbQ HR717_3 HB) HC717_3.out A16.out).mono ?_);rintro e w19 ⟨rfl,hb⟩;refine⟨_,rfl,?_⟩;replace HB:=Aside0.mk (below_step bQ hb);(try clear hb)))
              go_ret;exact⟨eQ,bQ⟩
            ·rw[if_neg c11]at H;have c11b0:=decide_eq_false c11;clear c11;have H':=Aside0.mk H;clear H;go_wp2
             go_roundg k4
             case measure=>have:=HJ2.out;have:=HK2.out;have:=HK3.out;have:=HK4.out;omega
             case rel=>exact⟨(wrap64 (x6_3+1)),eS,H',⟨by have:=HJ2.out;have:=HK2.out;have:=HK3.out;have:=HK4.out;omega⟩,⟨bQ⟩⟩
         ·rw[if_neg c10]at H;have c10b0:=decide_eq_false c10;clear c10;obtain rfl:=Option.some.inj H;go_wp2
          go_ret;exact⟨eQ,bQ⟩
def fluxionref02_Least.f(a0:Int)(a1:Int):Option (Int):=if a0=0 then(some a1)else(if a1=0 then(some a0)else(if a1< a0 then(some a1)else(some a0)))
theorem fluxionref02_Least.calls(a0:Int)(a1:Int)(r:Int)(w:World)(h:fluxionref02_Least.f a0 a1=some r):
  Calls Tryz.prog 79 #[.int .i64 a0,.int .i64 a1] w fun e w'=>e= .returned (.int .i64 r)∧Drawn0 w w':=by
 have H:=h;clear h;unfold fluxionref02_Least.f at H;by_cases c3:a0=0
 ·rw[if_pos c3]at H;have c3b0:=beq_iff_eq.mpr c3;have c3b1:=bne_eq_false_iff_eq.mpr c3;clear c3;obtain rfl:=Option.some.inj H;go_enter Tryz.func79,Tryz.ntmps79
  go_wp2
  go_ret;exact⟨by first|rfl| (simp;done) | (simp[*];done),by repeat(first|exact Drawn0.refl _|apply Drawn0.step)⟩
 ·rw[if_neg c3]at H;have c3b0:=beq_eq_false_iff_ne.mpr c3;have c3b1:=bne_iff_ne.mpr c3;by_cases c4:a1=0
  ·rw[if_pos c4]at H;have c4b0:=beq_iff_eq.mpr c4;have c4b1:=bne_eq_false_iff_eq.mpr c4;clear c4;obtain rfl:=Option.some.inj H;go_enter Tryz.func79,Tryz.ntmps79
   go_wp2
   go_ret;exact⟨by first|rfl| (simp;done) | (simp[*];done),by repeat(first|exact Drawn0.refl _|apply Drawn0.step)⟩
  ·rw[if_neg c4]at H;have c4b0:=beq_eq_false_iff_ne.mpr c4;have c4b1:=bne_iff_ne.mpr c4;by_cases c5:a1< a0
   ·rw[if_pos c5]at H;have c5b0:=decide_eq_true c5;clear c5;obtain rfl:=Option.some.inj H;go_enter Tryz.func79,Tryz.ntmps79
    go_wp2
    go_ret;exact⟨by first|rfl| (simp;done) | (simp[*];done),by repeat(first|exact Drawn0.refl _|apply Drawn0.step)⟩
   ·rw[if_neg c5]at H;have c5b0:=decide_eq_false c5;clear c5;obtain rfl:=Option.some.inj H;go_enter Tryz.func79,Tryz.ntmps79
    go_wp2
    go_ret;exact⟨by first|rfl| (simp;done) | (simp[*];done),by repeat(first|exact Drawn0.refl _|apply Drawn0.step)⟩
def fluxionref01_Add.l0:Nat→List Int→List Int→List Int→Int→Int→Option (List Int)
 |0,_,_,_,_,_=>none
 |k+1,x0,x1,x5,x6,x7=>if x7< (x5.length:Int)then((fluxionref01_digit.f x0 x7).bind fun t722=>((fluxionref01_digit.f x1 x7).bind fun t723=>(if 0≤x7 then(fluxionref01_Add.l0 k x0 x1 (x5.set (x7:Int).toNat ((IntKind.u64.wrap ((IntKind.u64.wrap (t722+t723)) +x6)) % 4294967296)) ((IntKind.u64.wrap ((IntKind.u64.wrap (t722+t723)) +x6)) / 4294967296) (wrap64 (x7+1)))else(none))))else((fluxionref01_short.f k x5).bind fun t725=>(some t725))
def fluxionref01_Add.f(k:Nat)(l0:List Int)(l1:List Int):Option (List Int):=if 0≤(wrap64 ((mx (l0.length:Int) (l1.length:Int)) +1))then(if(wrap64 ((mx (l0.length:Int) (l1.length:Int)) +1):Int).toNat≤70368744177664 then(fluxionref01_Add.l0 k l0 l1 (List.replicate (wrap64 ((mx (l0.length:Int) (l1.length:Int)) +1):Int).toNat 0) 0 0)else(none))else(none)
theorem fluxionref01_Add.calls(k:Nat)(A0:Option Addr)(c0:Nat)(l0:List Int)(A1:Option Addr)(c1:Nat)(l1:List Int)(r:List Int)(w:World)(hr0:Kd.C (Kd.int .u32) w A0 l0.length l0)(hc0:l0.length≤c0)(hr1:Kd.C (Kd.int .u32) w A1 l1.length l1)(hc1:l1.length≤c1)(h:fluxionref01_Add.f k l0 l1=some r):
  Calls Tryz.prog 107 #[.slice A0 l0.length c0,.slice A1 l1.length c1] w fun e w'=> ∃v0_:Value,e= .returned (v0_)∧Kd.R (Kd.int .u32) 60 w' w.heap.size (fun _=>True) v0_ r∧Below w.heap.size w w':=by
 have HR0:=Aside0.mk hr0;have HC0:=Aside0.mk hc0;clear hr0 hc0;have HR1:=Aside0.mk hr1;have HC1:=Aside0.mk hc1;clear hr1 hc1;have HB:=Aside0.mk (Below.refl w.heap.size w);have H:=h;clear h;unfold fluxionref01_Add.f at H;obtain⟨ji3,hji3⟩: ∃j_:Int,(mx (l0.length:Int) (l1.length:Int))=j_:=⟨_,rfl⟩;(first|rw[hji3]at H|simp only[hji3]at H);(try (have hji3l:0≤ji3:=by(rw[←hji3];unfold mx;(repeat' split)<;>omega)));(try (have hji3m:0≤ji3:=by omega));have hji3_:(if(l0.length:Int)< (l1.length:Int)then(l1.length:Int)else(l0.length:Int))=ji3:=hji3;have hji3n:(if l0.length< l1.length then(l1.length:Int)else(l0.length:Int))=ji3:=by rw[←hji3_];simp only[Int.ofNat_lt]
 obtain⟨ji4,hji4⟩: ∃j_:Int,(wrap64 ((ji3) +1))=j_:=⟨_,rfl⟩;(first|rw[hji4]at H|simp only[hji4]at H);have hji4w:(IntKind.i64.wrap ((ji3) +1))=ji4:=(i64_w _).trans hji4;replace H:=iN H;obtain⟨c5,H⟩:=H;have c5b0:=eq_true c5;have c5b1:=decide_eq_true c5;clear c5;replace H:=iN H;obtain⟨c6,H⟩:=H;have c6b0:=eq_true c6;have c6b1:=decide_eq_true c6;clear c6;obtain⟨y719,hy719⟩: ∃y_:List Int,y_=(List.replicate (ji4:Int).toNat 0):=⟨_,rfl⟩;(first|replace H:=by_ hy719 H|rw[←hy719]at H);(try dsimp only at H);have Ny719:=Aside0.mk hy719;clear hy719;have H':=Aside0.mk H;clear H;go_enter Tryz.func107,Tryz.ntmps107
 go_wp2_with (first| (refine gD 15 ?_;refine Kd.R_make (Kd.int .u32) _ 60 rfl (N:=15) rfl 57 _ _ rfl ji4 rfl rfl Tryz.underlying57 (.int .u32 0) 4 info60 rfl (by decide) (by omega) 0 (ok:=fun _=>True) (okp:=fun _=>True) rfl (fun _ hk=>hk) trivial (dQ) (Nat.le_trans (Nat.mul_le_mul_right _ (dQ:ji4.toNat≤70368744177664)) (by omega)) (Below.refl _ _) (Nat.le_refl _) ?_;intro v720 w7 ho8 hb hg_ hnew_;clear hg_ hnew_;(first|rw[←Ny719.out]at ho8| (simp only[Int.reduceToNat]at ho8;rw[←Ny719.out]at ho8));have HO721:=rL w ho8;replace HB:=hsQ hb;clear hb ho8))
 go_loopg [6,7] k (fun kq v6 v7 w'=> ∃ (x5_1:List Int) (x6_1:Int) (x7_1:Int),v6= .int .u64 x6_1∧v7= .int .i64 x7_1∧Aside0 (fluxionref01_Add.l0 kq l0 l1 x5_1 x6_1 x7_1=some r)∧Aside0 (kq≤k)∧Aside0 (Kd.R (Kd.int .u32) 60 w' w.heap.size (fun _=>True) v720 x5_1)∧Aside0 (Below w.heap.size w w'))
 case atStart=>exact⟨(y719),(0),(0),eS,eS,H',⟨Nat.le_refl _⟩,⟨rX (h:=HO721.out)⟩,⟨bQ⟩⟩
 case round=>
  clear H';(try clear c1);(try clear p2);(try clear c5);(try clear c5b0);(try clear c5b1);(try clear c6);(try clear c6b0);(try clear c6b1);(try clear p6);obtain⟨x5_1,x6_1,x7_1,rfl,rfl,HA,HK1,HO_5,HB⟩:=hrel;cases gk with
  |zero=>exact absurd HA.out (by simp[fluxionref01_Add.l0])
  |succ k1=>
   have H:=HA.out;clear HA;simp only[fluxionref01_Add.l0]at H;by_cases c9:x7_1< (x5_1.length:Int)
   ·rw[if_pos c9]at H;have c9b0:=decide_eq_true c9;clear c9;obtain⟨t722,A10,H⟩:=bO H;(try dsimp only at H);obtain⟨t723,A11,H⟩:=bO H;(try dsimp only at H);replace H:=iN H;obtain⟨c12,H⟩:=H;have c12b0:=decide_eq_true c12;clear c12;obtain⟨y724,hy724⟩: ∃y_:List Int,y_=(x5_1.set (x7_1:Int).toNat ((IntKind.u64.wrap ((IntKind.u64.wrap (t722+t723)) +x6_1)) % 4294967296)):=⟨_,rfl⟩;(first|replace H:=by_ hy724 H|rw[←hy724]at H);(try dsimp only at H);have Ny724:=Aside0.mk hy724;clear hy724;have H':=Aside0.mk H;clear H;obtain⟨Ao14,co14,eo14⟩:=Kd.R_slice HO_5.out;subst eo14;go_wp2_with (first| (refine gF 108 ?_;refine gl_ (some 24) Tryz.func108 #[.slice A0 l0.length c0,.int .i64 x7_1] ?_;(with_reducible refine(fluxionref01_digit.calls _ _ l0 x7_1 t722 _ (cbQ HR0 HB) HC0.out A10.out).mono ?_);rintro e w' ⟨rfl,⟨nd,rfl⟩⟩;refine⟨_,rfl,?_⟩;(try (rw[drewN_self wr];generalize hq_:World.drewN wr _=wr;have n0_:Aside0 (Kd.R (Kd.int .u32) 60 wr w.heap.size (fun _=>True) (.slice Ao14 x5_1.length co14) x5_1):=⟨by rw[←hq_];exact(pRQ HO_5.out)⟩;have n1_:=dB w hq_;clear HO_5 HB hq_;have HO_5:=n0_;have HB:=n1_;clear n0_ n1_))) | (refine gF 108 ?_;refine gl_ (some 27) Tryz.func108 #[.slice A1 l1.length c1,.int .i64 x7_1] ?_;(with_reducible refine(fluxionref01_digit.calls _ _ l1 x7_1 t723 _ (cbQ HR1 HB) HC1.out A11.out).mono ?_);rintro e w' ⟨rfl,⟨nd,rfl⟩⟩;refine⟨_,rfl,?_⟩;(try (rw[drewN_self wr];generalize hq_:World.drewN wr _=wr;have n0_:Aside0 (Kd.R (Kd.int .u32) 60 wr w.heap.size (fun _=>True) (.slice Ao14 x5_1.length co14) x5_1):=⟨by rw[←hq_];exact(pRQ HO_5.out)⟩;have n1_:=dB w hq_;clear HO_5 HB hq_;have HO_5:=n0_;have HB:=n1_;clear n0_ n1_));have p13:0≤(x7_1:Int):=dQ;have q13:(x7_1:Int)< ((x5_1.length:Int):Int):=dQ;obtain⟨go13,co13,eo13,gb13,gl13,cl13,HG13⟩:=Kd.R_form HO_5.out (by omega);(first|cases eo13| (injection eo13 with ea_ en_ ec_;(first|subst ea_| (injection ea_ with ea_;subst ea_));subst ec_;clear en_));have GB13:=Aside0.mk gb13;have GG13:=Aside0.mk HG13;clear gb13 gl13 HG13;obtain⟨hx13_0,hf13_0⟩:=Kd.R_celln 0 HO_5.out (x7_1:Int) p13 q13;replace p13:=eq_true p13;replace q13:=eq_true q13;obtain⟨hy15_,hz15_⟩:=Kd.R_celln 0 HO_5.out (x7_1:Int) (dQ) (dQ);have HP15:=Kd.R_putg HO_5.out (x7_1:Int) ((IntKind.u64.wrap ((IntKind.u64.wrap (t722+t723)) +x6_1)) % 4294967296)) | ((with_reducible refine gate_store (t:=60) (p:=35) rfl ?_);refine store_event (t:=60) (p:=35) (v:=?vo_w16) (w1:=(wr.setCell ⟨go13,(x7_1:Int).toNat,none⟩ (.int .u32 ((IntKind.u64.wrap ((IntKind.u64.wrap (t722+t723)) +x6_1)) % 4294967296)))) ?hg ?ho ?hn ?hr ?_;(case ho=>rfl);(case hg=>rfl);(case hn=>rfl);(case hr=>first| (go_simp;done) | (go_simp;rfl));intro w16 hw;have hg:wr.grownBy w16 (some go13):=(by rw[hw];exact HP15.2);have hp_:Kd.R (Kd.int .u32) 60 w16 w.heap.size (fun _=>True) (.slice (some ⟨go13,0,none⟩) x5_1.length co14) y724:=(by rw[hw,Ny724.out];exact HP15.1);clear HP15;replace HO_5:=Aside0.mk hp_;replace HB:=Aside0.mk (by rw[hw];exact below_set (HB.out) GB13.out:Below w.heap.size w w16);clear hg hw hp_))
    go_roundg k1
    case measure=>have:=HK1.out;omega
    case rel=>exact⟨(y724),((IntKind.u64.wrap ((IntKind.u64.wrap (t722+t723)) +x6_1)) / 4294967296),(wrap64 (x7_1+1)),eS,eS,H',⟨by have:=HK1.out;omega⟩,⟨rX (h:=HO_5.out)⟩,⟨bQ⟩⟩
   ·rw[if_neg c9]at H;have c9b0:=decide_eq_false c9;clear c9;obtain⟨t725,A17,H⟩:=bO H;(try dsimp only at H);obtain rfl:=Option.some.inj H;obtain⟨Ao18,co18,eo18⟩:=Kd.R_slice HO_5.out;subst eo18;go_wp2_with (first| (refine gF 98 ?_;refine gl_ (some 39) Tryz.func98 #[.slice Ao18 x5_1.length co18] ?_;(with_reducible refine(fluxionref01_short.calls k1 (fun k_=>some k_=(.slice Ao18 x5_1.length co18:Value).ownBlock) (.slice Ao18 x5_1.length co18) x5_1 t725 w _ ?side1 ?side2 A17.out).mono ?_);(case side1=>repeat(first| (with_reducible first|exact HB.out|apply below_alloc|apply pw_below_drewN|apply below_drew1) |exact HB.out));(case side2=>exact Kd.R_tight rfl HO_5.out);rintro e w19 ⟨v726,rfl,ho0,hb,hkp⟩;refine⟨_,rfl,?_⟩;have HO727:=Aside0.mk (Kd.R_mono (ok':=fun k_=>True) ho0 (fun k_ hk_=>trivial));replace HB:=Aside0.mk hb;clear HO_5;(try clear hb);(try clear hkp);(try clear ho0)))
    go_ret;exact⟨_,by first|rfl| (simp[errW_none,errW_some] <;>rfl) | (simp only[←hji3,←hji4];first|rfl| (simp[errW_none,errW_some] <;>rfl)) | (simp[*,errW_none,errW_some] <;>rfl),rX (h:=HO727.out),bQ⟩
def fluxionref02_signed.f(k:Nat)(a0:Bool)(l1:List Int)(a2:Bool)(l3:List Int):Option (Bool×List Int):=if(a0==a2)=true then((fluxionref01_Add.f k l1 l3).bind fun t728=>(some (a0,t728)))else((fluxionref01_Compare.f k l1 l3).bind fun t731=>(if t731≥0 then((fluxionref01_Sub.f k l1 l3).bind fun t732=>(some (a0,t732)))else((fluxionref01_Sub.f k l3 l1).bind fun t735=>(some (a2,t735)))))
theorem fluxionref02_signed.calls(k:Nat)(a0:Bool)(A1:Option Addr)(c1:Nat)(l1:List Int)(a2:Bool)(A3:Option Addr)(c3:Nat)(l3:List Int)(r1:Bool)(r2:List Int)(w:World)(hr1:Kd.C (Kd.int .u32) w A1 l1.length l1)(hc1:l1.length≤c1)(hr3:Kd.C (Kd.int .u32) w A3 l3.length l3)(hc3:l3.length≤c3)(h:fluxionref02_signed.f k a0 l1 a2 l3=some (r1,r2)):
  Calls Tryz.prog 81 #[.bool a0,.slice A1 l1.length c1,.bool a2,.slice A3 l3.length c3] w fun e w'=> ∃v1_:Value,e= .returned (.tuple #[.bool r1,v1_])∧Kd.R (Kd.int .u32) 60 w' w.heap.size (fun _=>True) v1_ r2∧Below w.heap.size w w':=by
 have HR1:=Aside0.mk hr1;have HC1:=Aside0.mk hc1;clear hr1 hc1;have HR3:=Aside0.mk hr3;have HC3:=Aside0.mk hc3;clear hr3 hc3;have HB:=Aside0.mk (Below.refl w.heap.size w);have H:=h;clear h;unfold fluxionref02_signed.f at H;by_cases c5:(a0==a2)=true
 ·rw[if_pos c5]at H;have c5b0:(a0==a2)=true:=c5;(try (have c5b1:decide (a0=a2)=true:=by simpa using c5));(try (have c5b2:(a0==a2)=true:=by simpa using c5));clear c5;obtain⟨t728,A6,H⟩:=bO H;(try dsimp only at H);simp only[Option.some.injEq,Prod.mk.injEq]at H;obtain⟨rfl,rfl⟩:=H;go_enter Tryz.func81,Tryz.ntmps81
  go_wp2_with (first| (refine gF 107 ?_;refine gl_ (some 16) Tryz.func107 #[.slice A1 l1.length c1,.slice A3 l3.length c3] ?_;(with_reducible refine(fluxionref01_Add.calls k _ _ l1 _ _ l3 t728 _ (cQ (HR1.out)) HC1.out (cQ (HR3.out)) HC3.out A6.out).mono ?_);rintro e w7 ⟨v729,rfl,ho0,hb⟩;refine⟨_,rfl,?_⟩;have HO730:=rL w ho0;replace HB:=hsQ hb;(try clear hb);(try clear ho0)))
  go_ret2;exact⟨_,eQ,rX (h:=HO730.out),bQ⟩
 ·rw[if_neg c5]at H;have c5b0:(a0==a2)=false:=by simpa using c5
  (try (have c5b1:decide (a0=a2)=false:=by simpa using c5));(try (have c5b2:(a0==a2)=false:=by simpa using c5));(try (have c5b3: ¬ (a0=a2):=by simpa using c5));clear c5;obtain⟨t731,A8,H⟩:=bO H;(try dsimp only at H);by_cases c9:t731≥0
  ·rw[if_pos c9]at H;have c9b0:=decide_eq_true c9;clear c9;obtain⟨t732,A10,H⟩:=bO H;(try dsimp only at H);simp only[Option.some.injEq,Prod.mk.injEq]at H;obtain⟨rfl,rfl⟩:=H;go_enter Tryz.func81,Tryz.ntmps81
   go_wp2_with (first| (refine gF 93 ?_;refine gl_ (some 19) Tryz.func93 #[.slice A1 l1.length c1,.slice A3 l3.length c3] ?_;(with_reducible refine(fluxionref01_Compare.calls k _ _ l1 _ _ l3 t731 _ (cQ (HR1.out)) HC1.out (cQ (HR3.out)) HC3.out A8.out).mono ?_);rintro e w' ⟨rfl,⟨nd,rfl⟩⟩;refine⟨_,rfl,?_⟩) | (refine gF 94 ?_;refine gl_ (some 24) Tryz.func94 #[.slice A1 l1.length c1,.slice A3 l3.length c3] ?_;(with_reducible refine(fluxionref01_Sub.calls k _ _ l1 _ _ l3 t732 _ (cQ (HR1.out)) HC1.out (cQ (HR3.out)) HC3.out A10.out).mono ?_);rintro e w11 ⟨v733,rfl,ho0,hb⟩;refine⟨_,rfl,?_⟩;have HO734:=rL w ho0;replace HB:=hsQ hb;(try clear hb);(try clear ho0)))
   go_ret2;exact⟨_,eQ,rX (h:=HO734.out),bQ⟩
  ·rw[if_neg c9]at H;have c9b0:=decide_eq_false c9;clear c9;obtain⟨t735,A12,H⟩:=bO H;(try dsimp only at H);simp only[Option.some.injEq,Prod.mk.injEq]at H;obtain⟨rfl,rfl⟩:=H;go_enter Tryz.func81,Tryz.ntmps81
   go_wp2_with (first| (refine gF 93 ?_;refine gl_ (some 19) Tryz.func93 #[.slice A1 l1.length c1,.slice A3 l3.length c3] ?_;(with_reducible refine(fluxionref01_Compare.calls k _ _ l1 _ _ l3 t731 _ (cQ (HR1.out)) HC1.out (cQ (HR3.out)) HC3.out A8.out).mono ?_);rintro e w' ⟨rfl,⟨nd,rfl⟩⟩;refine⟨_,rfl,?_⟩) | (refine gF 94 ?_;refine gl_ (some 28) Tryz.func94 #[.slice A3 l3.length c3,.slice A1 l1.length c1] ?_;(with_reducible refine(fluxionref01_Sub.calls k _ _ l3 _ _ l1 t735 _ (cQ (HR3.out)) HC3.out (cQ (HR1.out)) HC1.out A12.out).mono ?_);rintro e w13 ⟨v736,rfl,ho0,hb⟩;refine⟨_,rfl,?_⟩;have HO737:=rL w ho0;replace HB:=hsQ hb;(try clear hb);(try clear ho0)))
   go_ret2;exact⟨_,eQ,rX (h:=HO737.out),bQ⟩
end Go.Proofs.YtjjbondlcjnaiaaGreat.PSparseSeeds
