-- written by a program of this session, after the kit's print
import Derived.Test.YtjjbondlcjnaiaaDoorPSparseJoinedx12
namespace Go.Proofs.YtjjbondlcjnaiaaDoor.PSparseJoined
open Go.RowKit Go.Proofs.YtjjbondlcjnaiaaDoorW.PrintWords Go.Proofs.YtjjbondlcjnaiaaDoorW.PrintLast Go.Proofs.YtjjbondlcjnaiaaDoorW.PrintMore
set_option maxHeartbeats 8000000
set_option maxRecDepth 100000
attribute [local go_sem] max2_int min2_int max_two min_two max_three min_three max_four min_four
set_option linter.unusedVariables false
set_option linter.unusedSimpArgs false
mutual
def fluxionref01_Gcd.l0:Nat→List Int→List Int→Int→Option (List Int)
 |0,_,_,_=>none
 |k+1,x0,x1,x5=>if 0< (x0.length:Int)then(if(Int.tmod (rd x0 0) 2)=0 then(if 0< (x1.length:Int)then(fluxionref01_Gcd.j1 k x0 x1 x5 ((Int.tmod (rd x1 0) 2)==0))else(none))else(fluxionref01_Gcd.j1 k x0 x1 x5 false))else(none)
def fluxionref01_Gcd.j1:Nat→List Int→List Int→Int→Bool→Option (List Int)
 |0,_,_,_,_=>none
 |k+1,x0,x1,x5,x31=>if x31=true then(none)else(fluxionref01_Gcd.l1 k x0 x1 x5)
def fluxionref01_Gcd.l1:Nat→List Int→List Int→Int→Option (List Int)
 |0,_,_,_=>none
 |k+1,x0,x1,x5=>if(x1.length:Int) >0 then(fluxionref01_Gcd.l2 k x0 x1 x5)else(fluxionref01_Gcd.l4 k x0 x5 0)
def fluxionref01_Gcd.l2:Nat→List Int→List Int→Int→Option (List Int)
 |0,_,_,_=>none
 |k+1,x0,x1,x5=>if 0< (x0.length:Int)then(if(Int.tmod (rd x0 0) 2)=0 then(none)else(fluxionref01_Gcd.l3 k x0 x1 x5))else(none)
def fluxionref01_Gcd.l3:Nat→List Int→List Int→Int→Option (List Int)
 |0,_,_,_=>none
 |k+1,x0,x1,x5=>if 0< (x1.length:Int)then(if(Int.tmod (rd x1 0) 2)=0 then(none)else((fluxionref01_Compare.f k x0 x1).bind fun t333=>(if t333 >0 then(none)else((fluxionref01_Sub.f k x1 x0).bind fun t334=>(fluxionref01_Gcd.l1 k x0 t334 x5)))))else(none)
def fluxionref01_Gcd.l4:Nat→List Int→Int→Int→Option (List Int)
 |0,_,_,_=>none
 |k+1,x0,x5,x7=>if x7< x5 then(none)else((some (([] :List Int):List Int)).bind fun y337=>(if y337.length+x0.length< 35184372088832 then(some (y337++x0))else(none)))
end
def fluxionref01_Gcd.f(k:Nat)(l0:List Int)(l1:List Int):Option (List Int):=if(l0.length:Int)=0 then(none)else(if(l1.length:Int)=0 then(none)else(fluxionref01_Gcd.l0 k l0 l1 0))
theorem fluxionref01_Gcd.calls(k:Nat)(P0_:Nat→Prop)(A0:Option Addr)(c0:Nat)(l0:List Int)(P1_:Nat→Prop)(A1:Option Addr)(c1:Nat)(l1:List Int)(r:List Int)(w:World)(hs0:Kd.V (Kd.int .u32) 97 w w.heap.size (fun k_=>P0_ k_) (.slice A0 l0.length c0) l0)(hs1:Kd.V (Kd.int .u32) 97 w w.heap.size (fun k_=>P1_ k_) (.slice A1 l1.length c1) l1)(h:fluxionref01_Gcd.f k l0 l1=some r):
  Calls Tryd.prog 52 #[.slice A0 l0.length c0,.slice A1 l1.length c1] w fun e w'=> ∃v0_:Value,e= .returned (v0_)∧Kd.R (Kd.int .u32) 97 w' w.heap.size (fun k_=>(w.heap.size≤k_)) v0_ r∧Below w.heap.size w w':=by
 have HO0:=Aside0.mk (show Kd.V (Kd.int .u32) 97 w w.heap.size (fun k_=>((P0_ k_∨P1_ k_)∨w.heap.size≤k_)) (.slice A0 l0.length c0) l0 from Kd.V_mono hs0 (fun k_ hk=> .inl (.inl hk)));have HO1:=Aside0.mk (show Kd.V (Kd.int .u32) 97 w w.heap.size (fun k_=>((P0_ k_∨P1_ k_)∨w.heap.size≤k_)) (.slice A1 l1.length c1) l1 from Kd.V_mono hs1 (fun k_ hk=> .inl (.inr hk)));have HB:=Aside0.mk (Below.refl w.heap.size w);have H:=h;clear h;unfold fluxionref01_Gcd.f at H;by_cases c3:(l0.length:Int)=0
 ·rw[if_pos c3]at H;exact absurd H (by simp)
 ·rw[if_neg c3]at H;have c3b0:=beq_eq_false_iff_ne.mpr c3;have c3b1:=bne_iff_ne.mpr c3;have c3b2: ¬ (l0= []):=fun h_=>c3 (by rw[h_];rfl)
  by_cases c4:(l1.length:Int)=0
  ·rw[if_pos c4]at H;exact absurd H (by simp)
  ·rw[if_neg c4]at H;have c4b0:=beq_eq_false_iff_ne.mpr c4;have c4b1:=bne_iff_ne.mpr c4;have c4b2: ¬ (l1= []):=fun h_=>c4 (by rw[h_];rfl)
   have H':=Aside0.mk H;clear H;go_enter Tryd.func52,Tryd.ntmps52
   go_wp2
   go_loopg [0,1,5] k (fun kq v0 v1 v5 w'=> ∃ (x0_1:List Int) (x1_1:List Int) (x5_1:Int),v5= .int .i64 x5_1∧Aside0 (fluxionref01_Gcd.l0 kq x0_1 x1_1 x5_1=some r)∧Aside0 (kq≤k)∧Aside0 (Kd.V (Kd.int .u32) 97 w' w.heap.size (fun k_=>((P0_ k_∨P1_ k_)∨w.heap.size≤k_)) v0 x0_1)∧Aside0 (Kd.V (Kd.int .u32) 97 w' w.heap.size (fun k_=>((P0_ k_∨P1_ k_)∨w.heap.size≤k_)) v1 x1_1)∧Aside0 (Below w.heap.size w w'))
   case atStart=>exact⟨(l0),(l1),(0),eS,H',⟨Nat.le_refl _⟩,⟨vX (h:=HO0.out)⟩,⟨vX (h:=HO1.out)⟩,⟨bQ⟩⟩
   case round=>
    clear H';(try clear c1);(try clear p2);(try clear c3);(try clear c3b0);(try clear c3b1);(try clear c3b2);(try clear c4);(try clear c4b0);(try clear c4b1);(try clear c4b2);obtain⟨x0_1,x1_1,x5_1,rfl,HA,HK1,HO_0,HO_1,HB⟩:=hrel;cases gk with
    |zero=>exact absurd HA.out (by simp[fluxionref01_Gcd.l0])
    |succ k1=>
     have H:=HA.out;clear HA;simp only[fluxionref01_Gcd.l0]at H;have HC5:=Aside0.mk H;clear H;go_upto_region 6 with (fail)
     go_cut [31] (fun v31 wc=> ∃ (kq:Nat) (x31_4:Bool),v31= .bool x31_4∧Aside0 (fluxionref01_Gcd.j1 kq x0_1 x1_1 x5_1 x31_4=some r)∧Aside0 (kq≤k1)∧Aside0 (Kd.V (Kd.int .u32) 97 wc w.heap.size (fun k_=>((P0_ k_∨P1_ k_)∨w.heap.size≤k_)) u0 x0_1)∧Aside0 (Kd.V (Kd.int .u32) 97 wc w.heap.size (fun k_=>((P0_ k_∨P1_ k_)∨w.heap.size≤k_)) u1 x1_1)∧Aside0 (Below w.heap.size w wc))
     case first=>
      have H:=HC5.out;clear HC5;replace H:=iN H;obtain⟨c6,H⟩:=H;have c6b0:=decide_eq_true c6;have c6b1:decide (0< x0_1.length)=true:=decide_eq_true (by omega);clear c6;(first|rw[c6b0] | (simp only[i64_w,i32_w];rw[c6b0]) |skip);by_cases c7:(Int.tmod (rd x0_1 0) 2)=0
      ·rw[if_pos c7]at H;have c7b0:=beq_iff_eq.mpr c7;have c7b1:=bne_eq_false_iff_eq.mpr c7;clear c7;replace H:=iN H;obtain⟨c8,H⟩:=H;have c8b0:=decide_eq_true c8;have c8b1:decide (0< x1_1.length)=true:=decide_eq_true (by omega);clear c8;have H':=Aside0.mk H;clear H;obtain⟨Ao9,co9,eo9⟩:=Kd.V_slice HO_0.out;subst eo9;have p329:0≤(0:Int):=(by omega);have q329:0< (x0_1.length:Int):=dQ;obtain⟨ad329,e329,hx329_0⟩:=Kd.at_int (Kd.V_reads' HO_0.out).2.2 0 p329 q329;cases e329;have qi329:(0< x0_1.length)=True:=eq_true (by omega);(try rw[show((0:Int)).toNat=0 from rfl]at hx329_0);(try rw[Addr.add_zero']at hx329_0);replace p329:=eq_true p329;replace q329:=eq_true q329;obtain⟨Ao10,co10,eo10⟩:=Kd.V_slice HO_1.out;subst eo10;have p330:0≤(0:Int):=(by omega);have q330:0< (x1_1.length:Int):=dQ;obtain⟨ad330,e330,hx330_0⟩:=Kd.at_int (Kd.V_reads' HO_1.out).2.2 0 p330 q330;cases e330;have qi330:(0< x1_1.length)=True:=eq_true (by omega);(try rw[show((0:Int)).toNat=0 from rfl]at hx330_0);(try rw[Addr.add_zero']at hx330_0);replace p330:=eq_true p330;replace q330:=eq_true q330;go_wp2
       go_meet
       case rel=>exact⟨_,(((Int.tmod (rd x1_1 0) 2)==0)),eS,H',⟨by have:=HK1.out;first|omega|exact Nat.le_refl _⟩,⟨vX (h:=HO_0.out)⟩,⟨vX (h:=HO_1.out)⟩,⟨bQ⟩⟩
      ·rw[if_neg c7]at H;have c7b0:=beq_eq_false_iff_ne.mpr c7;have c7b1:=bne_iff_ne.mpr c7;have H':=Aside0.mk H;clear H;obtain⟨Ao11,co11,eo11⟩:=Kd.V_slice HO_0.out;subst eo11;have p329:0≤(0:Int):=(by omega);have q329:0< (x0_1.length:Int):=dQ;obtain⟨ad329,e329,hx329_0⟩:=Kd.at_int (Kd.V_reads' HO_0.out).2.2 0 p329 q329;cases e329;have qi329:(0< x0_1.length)=True:=eq_true (by omega);(try rw[show((0:Int)).toNat=0 from rfl]at hx329_0);(try rw[Addr.add_zero']at hx329_0);replace p329:=eq_true p329;replace q329:=eq_true q329;go_wp2
       go_meet
       case rel=>exact⟨_,(false),eS,H',⟨by have:=HK1.out;first|omega|exact Nat.le_refl _⟩,⟨vX (h:=HO_0.out)⟩,⟨vX (h:=HO_1.out)⟩,⟨bQ⟩⟩
     case rest=>
      clear HC5;(try clear c1);(try clear p2);(try clear c3);(try clear c3b0);(try clear c3b1);(try clear c3b2);(try clear p3);(try clear q3);(try clear hx3);(try clear qi3);(try clear c4);(try clear c4b0);(try clear c4b1);(try clear c4b2);(try clear c5);(try clear c6);(try clear c6b0);(try clear c6b1);(try clear c7);(try clear c7b0);(try clear c7b1);(try clear c8);(try clear c8b0);(try clear c8b1);(try clear hx329_0);(try clear hx330_0);(try clear p2);(try clear p329);(try clear p330);(try clear q329);(try clear q330);obtain⟨kq,x31_4,rfl,HA,HJ4,HO_0,HO_1,HB⟩:=hcut;cases kq with
      |zero=>exact absurd HA.out (by simp[fluxionref01_Gcd.j1])
      |succ kj4=>
       have H:=HA.out;clear HA;simp only[fluxionref01_Gcd.j1]at H;by_cases c12:x31_4=true
       ·subst c12;rw[if_pos rfl]at H;exact absurd H (by simp)
       ·replace c12:=Bool.eq_false_iff.mpr c12;subst c12;rw[if_neg nF]at H;have H':=Aside0.mk H;clear H;go_wp2
        go_loopg [0,1] kj4 (fun kq v0 v1 w'=> ∃ (x0_3:List Int) (x1_3:List Int),Aside0 (fluxionref01_Gcd.l1 kq x0_3 x1_3 x5_1=some r)∧Aside0 (kq≤kj4)∧Aside0 (Kd.V (Kd.int .u32) 97 w' w.heap.size (fun k_=>((P0_ k_∨P1_ k_)∨w.heap.size≤k_)) v0 x0_3)∧Aside0 (Kd.V (Kd.int .u32) 97 w' w.heap.size (fun k_=>((P0_ k_∨P1_ k_)∨w.heap.size≤k_)) v1 x1_3)∧Aside0 (Below w.heap.size w w'))
        case atStart=>exact⟨(x0_1),(x1_1),H',⟨Nat.le_refl _⟩,⟨vX (h:=HO_0.out)⟩,⟨vX (h:=HO_1.out)⟩,⟨bQ⟩⟩
        case round=>
         clear H';(try clear c1);(try clear p2);(try clear c3);(try clear c3b0);(try clear c3b1);(try clear c3b2);(try clear p3);(try clear q3);(try clear hx3);(try clear qi3);(try clear c4);(try clear c4b0);(try clear c4b1);(try clear c4b2);(try clear c5);(try clear c6);(try clear c6b0);(try clear c6b1);(try clear c7);(try clear c7b0);(try clear c7b1);(try clear c8);(try clear c8b0);(try clear c8b1);(try clear c12);(try clear hx329_0);(try clear hx330_0);(try clear p2);(try clear p3);(try clear p329);(try clear p330);(try clear q3);(try clear q329);(try clear q330);obtain⟨x0_3,x1_3,HA,HK3,HO_0,HO_1,HB⟩:=hrel;cases gk with
         |zero=>exact absurd HA.out (by simp[fluxionref01_Gcd.l1])
         |succ k3=>
          have H:=HA.out;clear HA;simp only[fluxionref01_Gcd.l1]at H;by_cases c13:(x1_3.length:Int) >0
          ·rw[if_pos c13]at H;have c13b0:=decide_eq_true c13;have c13b1:decide (0< x1_3.length)=true:=decide_eq_true (by omega);clear c13;have H':=Aside0.mk H;clear H;obtain⟨Ao14,co14,eo14⟩:=Kd.V_slice HO_1.out;subst eo14;go_wp2
           go_loopg [0] k3 (fun kq v0 w'=> ∃ (x0_4:List Int),Aside0 (fluxionref01_Gcd.l2 kq x0_4 x1_3 x5_1=some r)∧Aside0 (kq≤k3)∧Aside0 (Kd.V (Kd.int .u32) 97 w' w.heap.size (fun k_=>((P0_ k_∨P1_ k_)∨w.heap.size≤k_)) v0 x0_4)∧Aside0 (Kd.V (Kd.int .u32) 97 w' w.heap.size (fun k_=>((P0_ k_∨P1_ k_)∨w.heap.size≤k_)) (.slice Ao14 x1_3.length co14) x1_3)∧Aside0 (Below w.heap.size w w'))
           case atStart=>exact⟨(x0_3),H',⟨Nat.le_refl _⟩,⟨vX (h:=HO_0.out)⟩,⟨vX (h:=HO_1.out)⟩,⟨bQ⟩⟩
           case round=>
            clear H';(try clear c1);(try clear p2);(try clear c3);(try clear c3b0);(try clear c3b1);(try clear c3b2);(try clear p3);(try clear q3);(try clear hx3);(try clear qi3);(try clear c4);(try clear c4b0);(try clear c4b1);(try clear c4b2);(try clear c5);(try clear c6);(try clear c6b0);(try clear c6b1);(try clear c7);(try clear c7b0);(try clear c7b1);(try clear c8);(try clear c8b0);(try clear c8b1);(try clear c12);(try clear c13);(try clear c13b0);(try clear c13b1);(try clear hx329_0);(try clear hx330_0);(try clear p2);(try clear p3);(try clear p329);(try clear p330);(try clear q3);(try clear q329);(try clear q330);obtain⟨x0_4,HA,HK4,HO_0,HO_1,HB⟩:=hrel;cases gk with
            |zero=>exact absurd HA.out (by simp[fluxionref01_Gcd.l2])
            |succ k4=>
             have H:=HA.out;clear HA;simp only[fluxionref01_Gcd.l2]at H;replace H:=iN H;obtain⟨c15,H⟩:=H;have c15b0:=decide_eq_true c15;have c15b1:decide (0< x0_4.length)=true:=decide_eq_true (by omega);clear c15;by_cases c16:(Int.tmod (rd x0_4 0) 2)=0
             ·rw[if_pos c16]at H;exact absurd H (by simp)
             ·rw[if_neg c16]at H;have c16b0:=beq_eq_false_iff_ne.mpr c16;have c16b1:=bne_iff_ne.mpr c16;have H':=Aside0.mk H;clear H;obtain⟨Ao17,co17,eo17⟩:=Kd.V_slice HO_0.out;subst eo17;have p331:0≤(0:Int):=(by omega);have q331:0< (x0_4.length:Int):=dQ;obtain⟨ad331,e331,hx331_0⟩:=Kd.at_int (Kd.V_reads' HO_0.out).2.2 0 p331 q331;cases e331;have qi331:(0< x0_4.length)=True:=eq_true (by omega);(try rw[show((0:Int)).toNat=0 from rfl]at hx331_0);(try rw[Addr.add_zero']at hx331_0);replace p331:=eq_true p331;replace q331:=eq_true q331;go_wp2
              go_loopg [1] k4 (fun kq v1 w'=> ∃ (x1_5:List Int),Aside0 (fluxionref01_Gcd.l3 kq x0_4 x1_5 x5_1=some r)∧Aside0 (kq≤k4)∧Aside0 (Kd.V (Kd.int .u32) 97 w' w.heap.size (fun k_=>((P0_ k_∨P1_ k_)∨w.heap.size≤k_)) (.slice (some ad331) x0_4.length co17) x0_4)∧Aside0 (Kd.V (Kd.int .u32) 97 w' w.heap.size (fun k_=>((P0_ k_∨P1_ k_)∨w.heap.size≤k_)) v1 x1_5)∧Aside0 (Below w.heap.size w w'))
              case atStart=>exact⟨(x1_3),H',⟨Nat.le_refl _⟩,⟨vX (h:=HO_0.out)⟩,⟨vX (h:=HO_1.out)⟩,⟨bQ⟩⟩
              case round=>
               clear H';(try clear c1);(try clear p2);(try clear c3);(try clear c3b0);(try clear c3b1);(try clear c3b2);(try clear p3);(try clear q3);(try clear hx3);(try clear qi3);(try clear c4);(try clear c4b0);(try clear c4b1);(try clear c4b2);(try clear c5);(try clear c6);(try clear c6b0);(try clear c6b1);(try clear c7);(try clear c7b0);(try clear c7b1);(try clear c8);(try clear c8b0);(try clear c8b1);(try clear c12);(try clear c13);(try clear c13b0);(try clear c13b1);(try clear c15);(try clear c15b0);(try clear c15b1);(try clear c16);(try clear c16b0);(try clear c16b1);(try clear hx329_0);(try clear hx330_0);(try clear hx331_0);(try clear p2);(try clear p3);(try clear p329);(try clear p330);(try clear p331);(try clear q3);(try clear q329);(try clear q330);(try clear q331);obtain⟨x1_5,HA,HK5,HO_0,HO_1,HB⟩:=hrel;cases gk with
               |zero=>exact absurd HA.out (by simp[fluxionref01_Gcd.l3])
               |succ k5=>
                have H:=HA.out;clear HA;simp only[fluxionref01_Gcd.l3]at H;replace H:=iN H;obtain⟨c18,H⟩:=H;have c18b0:=decide_eq_true c18;have c18b1:decide (0< x1_5.length)=true:=decide_eq_true (by omega);clear c18;by_cases c19:(Int.tmod (rd x1_5 0) 2)=0
                ·rw[if_pos c19]at H;exact absurd H (by simp)
                ·rw[if_neg c19]at H;have c19b0:=beq_eq_false_iff_ne.mpr c19;have c19b1:=bne_iff_ne.mpr c19;obtain⟨t333,A20,H⟩:=bO H;(try dsimp only at H);by_cases c21:t333 >0
                 ·rw[if_pos c21]at H;exact absurd H (by simp)
                 ·rw[if_neg c21]at H;have c21b0:=decide_eq_false c21;clear c21;obtain⟨t334,A22,H⟩:=bO H;(try dsimp only at H);have H':=Aside0.mk H;clear H;obtain⟨Ao23,co23,eo23⟩:=Kd.V_slice HO_1.out;subst eo23;have p332:0≤(0:Int):=(by omega);have q332:0< (x1_5.length:Int):=dQ;obtain⟨ad332,e332,hx332_0⟩:=Kd.at_int (Kd.V_reads' HO_1.out).2.2 0 p332 q332;cases e332;have qi332:(0< x1_5.length)=True:=eq_true (by omega);(try rw[show((0:Int)).toNat=0 from rfl]at hx332_0);(try rw[Addr.add_zero']at hx332_0);replace p332:=eq_true p332;replace q332:=eq_true q332;go_wp2_with (first| (refine gF 69 ?_;refine gl_ (some 57) Tryd.func69 #[.slice (some ad331) x0_4.length co17,.slice (some ad332) x1_5.length co23] ?_;(with_reducible refine(fluxionref01_Compare.calls k5 _ _ x0_4 _ _ x1_5 t333 _ (cQ ((Kd.V_reads' HO_0.out).2.2)) ((Kd.V_reads' HO_0.out).2.1) (cQ ((Kd.V_reads' HO_1.out).2.2)) ((Kd.V_reads' HO_1.out).2.1) A20.out).mono ?_);rintro e w' ⟨rfl,⟨nd,rfl⟩⟩;refine⟨_,rfl,?_⟩) | (refine gF 70 ?_;refine gl_ (some 64) Tryd.func70 #[.slice (some ad332) x1_5.length co23,.slice (some ad331) x0_4.length co17] ?_;(with_reducible refine(fluxionref01_Sub.calls k5 _ _ x1_5 _ _ x0_4 t334 _ (cQ ((Kd.V_reads' HO_1.out).2.2)) ((Kd.V_reads' HO_1.out).2.1) (cQ ((Kd.V_reads' HO_0.out).2.2)) ((Kd.V_reads' HO_0.out).2.1) A22.out).mono ?_);rintro e w24 ⟨v335,rfl,ho0,hb⟩;refine⟨_,rfl,?_⟩;have HO336:=Aside0.mk (Kd.R_lower (Kd.R_newM (M:=fun k_=>(w.heap.size≤k_)) ho0 (below_size bQ) (fun k_ h_=>h_)) (below_size bQ));replace HO_0:=Aside0.mk (Kd.V_elder' (pVQ HO_0.out) (Kd.R_base ho0) hb);replace HO_1:=Aside0.mk (Kd.V_elder' (pVQ HO_1.out) (Kd.R_base ho0) hb);replace HB:=hsQ hb;(try clear hb);(try clear ho0)))
                  go_roundg k5
                  case measure=>have:=HK1.out;have:=HJ4.out;have:=HK3.out;have:=HK4.out;have:=HK5.out;omega
                  case rel=>exact⟨(x0_4),(t334),H',⟨by have:=HK1.out;have:=HJ4.out;have:=HK3.out;have:=HK4.out;have:=HK5.out;omega⟩,⟨vX (h:=Kd.V_mono HO_0.out (fun _ hk=>hk.1))⟩,⟨Kd.V_mono (Kd.R_V (rX (h:=Kd.R_mono HO336.out (fun _ hk=>hk.1)))) (fun k_ hk=>by first|exact⟨(.inr (hk.1)),hk.2⟩ |exact(.inr (hk)))⟩,⟨bQ⟩⟩
          ·rw[if_neg c13]at H;have c13b0:=decide_eq_false c13;have c13b1:decide (0< x1_3.length)=false:=decide_eq_false (by omega);clear c13;have H':=Aside0.mk H;clear H;obtain⟨Ao25,co25,eo25⟩:=Kd.V_slice HO_1.out;subst eo25;go_wp2
           go_loopg [0,7] k3 (fun kq v0 v7 w'=> ∃ (x0_4:List Int) (x7_4:Int),v7= .int .i64 x7_4∧Aside0 (fluxionref01_Gcd.l4 kq x0_4 x5_1 x7_4=some r)∧Aside0 (kq≤k3)∧Aside0 (Kd.V (Kd.int .u32) 97 w' w.heap.size (fun k_=>((P0_ k_∨P1_ k_)∨w.heap.size≤k_)) v0 x0_4)∧Aside0 (Below w.heap.size w w'))
           case atStart=>exact⟨(x0_3),(0),eS,H',⟨Nat.le_refl _⟩,⟨vX (h:=HO_0.out)⟩,⟨bQ⟩⟩
           case round=>
            clear H';(try clear c1);(try clear c2);(try clear p2);(try clear c3);(try clear c3b0);(try clear c3b1);(try clear c3b2);(try clear p3);(try clear q3);(try clear hx3);(try clear qi3);(try clear c4);(try clear c4b0);(try clear c4b1);(try clear c4b2);(try clear c5);(try clear c6);(try clear c6b0);(try clear c6b1);(try clear c7);(try clear c7b0);(try clear c7b1);(try clear c8);(try clear c8b0);(try clear c8b1);(try clear c12);(try clear c13);(try clear c13b0);(try clear c13b1);(try clear c15);(try clear c15b0);(try clear c15b1);(try clear c16);(try clear c16b0);(try clear c16b1);(try clear c18);(try clear c18b0);(try clear c18b1);(try clear c19);(try clear c19b0);(try clear c19b1);(try clear c21);(try clear c21b0);(try clear hx329_0);(try clear hx330_0);(try clear hx331_0);(try clear hx332_0);(try clear p2);(try clear p3);(try clear p329);(try clear p330);(try clear p331);(try clear p332);(try clear q3);(try clear q329);(try clear q330);(try clear q331);(try clear q332);obtain⟨x0_4,x7_4,rfl,HA,HK4,HO_0,HB⟩:=hrel;cases gk with
            |zero=>exact absurd HA.out (by simp[fluxionref01_Gcd.l4])
            |succ k4=>
             have H:=HA.out;clear HA;simp only[fluxionref01_Gcd.l4]at H;by_cases c26:x7_4< x5_1
             ·rw[if_pos c26]at H;exact absurd H (by simp)
             ·rw[if_neg c26]at H;have c26b0:=decide_eq_false c26;clear c26;obtain⟨y337,hy337⟩: ∃y_:List Int,y_=(([] :List Int)):=⟨_,rfl⟩;(first|replace H:=by_ hy337 H|rw[←hy337]at H);(try dsimp only at H);have Ny337:=Aside0.mk hy337;clear hy337;replace H:=iN H;obtain⟨c27,H⟩:=H;have LMc27:=Aside0.mk c27;clear c27;obtain⟨y340,hy340⟩: ∃y_:List Int,y_=(y337++x0_4):=⟨_,rfl⟩;(first|replace H:=by_ hy340 H|rw[←hy340]at H);(try dsimp only at H);have Ny340:=Aside0.mk hy340;clear hy340;obtain rfl:=Option.some.inj H;go_wp2_with (first| (refine gD 72 ?_;refine li_ (Kd.int .u32) 97 72 ([] :List Int) [] (Reps.none _ _) ?_;intro v338 w28 ho29 hb hg_ hnew_;clear hg_ hnew_;(first|rw[←Ny337.out]at ho29| (simp only[Int.reduceToNat]at ho29;rw[←Ny337.out]at ho29));have HO339:=Aside0.mk (Kd.R_lower (Kd.R_newM (M:=fun k_=>(w.heap.size≤k_)) ho29 (below_size bQ) (fun k_ h_=>h_)) (below_size bQ));replace HO_0:=Aside0.mk (Kd.V_elder' (pVQ HO_0.out) (Kd.R_base ho29) hb);replace HB:=hsQ hb;clear hb ho29;obtain⟨Ao31,co31,eo31⟩:=Kd.V_slice HO_0.out;subst eo31) | ((with_reducible refine gate_builtin (b:= .append) (xs:= #[.tmp 72,.tmp 73]) rfl ?_);at_builtin;refine Kd.R_append_rows (Kd.int .u32) (w0:=w) w.heap.size rfl (.tmp 72) (.tmp 73) 40 97 (.int .u32 0) 4 rfl Tryd.underlying40 info97 rfl (by decide) (by omega) v338 y337 x0_4 _ _ _ (fun k_=>(w.heap.size≤k_)) (fun _=>False) rfl rfl ?aO ?aR (fun _ _ h=>h) (fun _ h=>h.elim) ?aF ?aB ?aS ?aL ?_;(case aR=>exact cQ ((Kd.V_reads' HO_0.out).2.2));(case aB=>exact bQ);(case aF=>exact(fun k_ hk=>(Nat.le_trans (below_size bQ) hk)));(case aO=>exact(rX (h:=Kd.R_mono HO339.out (fun _ hk=>hk.1))));(case aS=>exact(below_size bQ));(case aL=>have:=LMc27.out;omega);intro v341 w30 ho hb hg hat;rw[←Ny340.out]at ho;have HO342:=Aside0.mk ho;replace HO_0:=Aside0.mk (Kd.V_afterv (ok:=(fun k_=>((P0_ k_∨P1_ k_)∨w.heap.size≤k_))) (pVQ HO_0.out) hg hat);replace HB:=Aside0.mk hb;clear HO339;clear ho hb hg hat))
              go_ret;exact⟨_,eQ,rX (h:=HO342.out),bQ⟩
def fluxionref02_one.f:Option (List Int):=some (([1] :List Int))
theorem fluxionref02_one.calls(r:List Int)(w:World)(h:fluxionref02_one.f=some r):
  Calls Tryd.prog 75 #[] w fun e w'=> ∃v0_:Value,e= .returned (v0_)∧Kd.R (Kd.int .u32) 97 w' w.heap.size (fun _=>True) v0_ r∧Below w.heap.size w w':=by
 have HB:=Aside0.mk (Below.refl w.heap.size w);have H:(some (([1] :List Int)))=some r:=h;clear h;obtain⟨y343,hy343⟩: ∃y_:List Int,y_=(([1] :List Int)):=⟨_,rfl⟩;(first|replace H:=by_ hy343 H|rw[←hy343]at H);(try dsimp only at H);have Ny343:=Aside0.mk hy343;clear hy343;obtain rfl:=Option.some.inj H;go_enter Tryd.func75,Tryd.ntmps75
 go_wp2_with (first| (refine gD 1 ?_;refine li_ (Kd.int .u32) 97 1 ([1] :List Int) [.int .u32 1] (Reps.one (show Kd.M (Kd.int .u32) _ _ _ 1 [.int .u32 1]from rfl) (Reps.none _ _)) ?_;intro v344 w1 ho2 hb hg_ hnew_;clear hg_ hnew_;(first|rw[←Ny343.out]at ho2| (simp only[Int.reduceToNat]at ho2;rw[←Ny343.out]at ho2));have HO345:=rL w ho2;replace HB:=hsQ hb;clear hb ho2))
 go_ret;exact⟨_,eQ,rX (h:=HO345.out),bQ⟩
end Go.Proofs.YtjjbondlcjnaiaaDoor.PSparseJoined
