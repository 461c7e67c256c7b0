-- written by a program of this session, after the kit's print
import Derived.Test.YtjjbondlcjnaiaaGreatPSparseSpreadsx0
namespace Go.Proofs.YtjjbondlcjnaiaaGreat.PSparseSpreads
open Go.RowKit Go.Proofs.YtjjbondlcjnaiaaGreatW.PrintWords Go.Proofs.YtjjbondlcjnaiaaGreatW.PrintLast Go.Proofs.YtjjbondlcjnaiaaGreatW.PrintMore
set_option maxHeartbeats 8000000
set_option maxRecDepth 100000
attribute [local go_sem] max2_int min2_int max_two min_two max_three min_three max_four min_four
set_option linter.unusedVariables false
set_option linter.unusedSimpArgs false
mutual
def fluxionref19_Form.j0:Nat→List (List Bool)→Int→Bool→Option (Int)
 |0,_,_,_=>none
 |k+1,x0,x1,x14=>if x14=true then(some 2)else(fluxionref19_Form.l0 k x0 x1 0)
def fluxionref19_Form.l0:Nat→List (List Bool)→Int→Int→Option (Int)
 |0,_,_,_=>none
 |k+1,x0,x1,x5=>if x5< (x0.length:Int)then(if 0≤x5 then(if((rd_L1 x0 x5).length:Int)=x1 then(fluxionref19_Form.l0 k x0 x1 (wrap64 (x5+1)))else(some 2))else(none))else(some 0)
end
def fluxionref19_Form.f(k:Nat)(l0:List (List Bool))(a1:Int):Option (Int):=if(l0.length:Int) >4096 then(some 3)else(if a1< 0 then(fluxionref19_Form.j0 k l0 a1 true)else(fluxionref19_Form.j0 k l0 a1 (decide (a1 >4096))))
theorem fluxionref19_Form.calls(k:Nat)(A0:Option Addr)(c0:Nat)(l0:List (List Bool))(a1:Int)(r:Int)(w:World)(hr0:Kd.C (Kd.slice 4 Kd.bool) w A0 l0.length l0)(hc0:l0.length≤c0)(h:fluxionref19_Form.f k l0 a1=some r):
  Calls Tryz.prog 11 #[.slice A0 l0.length c0,.int .i64 a1] w fun e w'=>e= .returned (.int .i64 r)∧Drawn0 w w':=by
 have HR0:=Aside0.mk hr0;have HC0:=Aside0.mk hc0;clear hr0 hc0;have H:=h;clear h;unfold fluxionref19_Form.f at H;by_cases c3:(l0.length:Int) >4096
 ·rw[if_pos c3]at H;have c3b0:=decide_eq_true c3;have c3b1:decide (4096< l0.length)=true:=decide_eq_true (by omega);clear c3;obtain rfl:=Option.some.inj H;go_enter Tryz.func11,Tryz.ntmps11
  go_wp2
  go_ret;exact⟨by first|rfl| (simp;done) | (simp[*];done),by repeat(first|exact Drawn0.refl _|apply Drawn0.step)⟩
 ·rw[if_neg c3]at H;have c3b0:=decide_eq_false c3;have c3b1:decide (4096< l0.length)=false:=decide_eq_false (by omega);clear c3;have HC4:=Aside0.mk H;clear H;go_enter Tryz.func11,Tryz.ntmps11
  go_upto_region 3 with (fail)
  go_cut [14] (fun v14 wc=> ∃ (kq:Nat) (x14_3:Bool),v14= .bool x14_3∧Aside0 (fluxionref19_Form.j0 kq l0 a1 x14_3=some r)∧Aside0 (kq≤k)∧Drawn0 w wc)
  case first=>
   have H:=HC4.out;clear HC4;by_cases c5:a1< 0
   ·rw[if_pos c5]at H;have c5b0:=decide_eq_true c5;clear c5;(first|rw[c5b0] | (simp only[i64_w,i32_w];rw[c5b0]) |skip);have H':=Aside0.mk H;clear H;go_wp2
    go_meet
    case rel=>exact⟨_,(true),eS,H',⟨by first|omega|exact Nat.le_refl _⟩,by repeat(first|exact Drawn0.refl _|apply Drawn0.step)⟩
   ·rw[if_neg c5]at H;have c5b0:=decide_eq_false c5;clear c5;(first|rw[c5b0] | (simp only[i64_w,i32_w];rw[c5b0]) |skip);have H':=Aside0.mk H;clear H;go_wp2
    go_meet
    case rel=>exact⟨_,(decide (a1 >4096)),eS,H',⟨by first|omega|exact Nat.le_refl _⟩,by repeat(first|exact Drawn0.refl _|apply Drawn0.step)⟩
  case rest=>
   clear HC4;(try clear c1);(try clear p2);(try clear c3);(try clear c3b0);(try clear c3b1);(try clear c5);(try clear c5b0);obtain⟨kq,x14_3,rfl,HA,HJ3,⟨mc3,rfl⟩⟩:=hcut;cases kq with
   |zero=>exact absurd HA.out (by simp[fluxionref19_Form.j0])
   |succ kj3=>
    have H:=HA.out;clear HA;simp only[fluxionref19_Form.j0]at H;by_cases c6:x14_3=true
    ·subst c6;rw[if_pos rfl]at H;obtain rfl:=Option.some.inj H;go_wp2
     go_ret;exact⟨by first|rfl| (simp;done) | (simp[*];done),by repeat(first|exact Drawn0.refl _|apply Drawn0.step)⟩
    ·replace c6:=Bool.eq_false_iff.mpr c6;subst c6;rw[if_neg nF]at H;have H':=Aside0.mk H;clear H;go_wp2
     go_loopg [5] kj3 (fun kq v5 w'=> ∃ (x5_2:Int),v5= .int .i64 x5_2∧Aside0 (fluxionref19_Form.l0 kq l0 a1 x5_2=some r)∧Aside0 (kq≤kj3)∧Drawn0 w w')
     case atStart=>exact⟨(0),eS,H',⟨Nat.le_refl _⟩,by repeat(first|exact Drawn0.refl _|apply Drawn0.step)⟩
     case round=>
      clear H';(try clear c1);(try clear p2);(try clear c3);(try clear c3b0);(try clear c3b1);(try clear c5);(try clear c5b0);(try clear c6);(try clear p2);obtain⟨x5_2,rfl,HA,HK2,⟨m2,rfl⟩⟩:=hrel;cases gk with
      |zero=>exact absurd HA.out (by simp[fluxionref19_Form.l0])
      |succ k2=>
       have H:=HA.out;clear HA;simp only[fluxionref19_Form.l0]at H;by_cases c7:x5_2< (l0.length:Int)
       ·rw[if_pos c7]at H;have c7b0:=decide_eq_true c7;clear c7;replace H:=iN H;obtain⟨c8,H⟩:=H;have c8b0:=decide_eq_true c8;clear c8;by_cases c9:((rd_L1 l0 x5_2).length:Int)=a1
        ·rw[if_pos c9]at H;have c9b0:=beq_iff_eq.mpr c9;have c9b1:=bne_eq_false_iff_eq.mpr c9;clear c9;have H':=Aside0.mk H;clear H;have p297:0≤(x5_2:Int):=dQ;have q297:x5_2< (l0.length:Int):=dQ;obtain⟨ad297,A297_0,c297_0,e297,hx297_0,hl297_0,hi297_0⟩:=at_L1 HR0.out x5_2 p297 q297;cases e297;have HR297_0:=Aside0.mk hi297_0;have HC297_0:=Aside0.mk hl297_0;clear hi297_0 hl297_0;replace p297:=eq_true p297;replace q297:=eq_true q297;go_wp2
         go_roundg k2
         case measure=>have:=HJ3.out;have:=HK2.out;omega
         case rel=>exact⟨(wrap64 (x5_2+1)),eS,H',⟨by have:=HJ3.out;have:=HK2.out;omega⟩,by repeat(first|exact Drawn0.refl _|apply Drawn0.step)⟩
        ·rw[if_neg c9]at H;have c9b0:=beq_eq_false_iff_ne.mpr c9;have c9b1:=bne_iff_ne.mpr c9;obtain rfl:=Option.some.inj H;have p297:0≤(x5_2:Int):=dQ;have q297:x5_2< (l0.length:Int):=dQ;obtain⟨ad297,A297_0,c297_0,e297,hx297_0,hl297_0,hi297_0⟩:=at_L1 HR0.out x5_2 p297 q297;cases e297;have HR297_0:=Aside0.mk hi297_0;have HC297_0:=Aside0.mk hl297_0;clear hi297_0 hl297_0;replace p297:=eq_true p297;replace q297:=eq_true q297;go_wp2
         go_ret;exact⟨by first|rfl| (simp;done) | (simp[*];done),by repeat(first|exact Drawn0.refl _|apply Drawn0.step)⟩
       ·rw[if_neg c7]at H;have c7b0:=decide_eq_false c7;clear c7;obtain rfl:=Option.some.inj H;go_wp2
        go_ret;exact⟨by first|rfl| (simp;done) | (simp[*];done),by repeat(first|exact Drawn0.refl _|apply Drawn0.step)⟩
def fluxionref19_Numbered.l0:Nat→Int→List Int→Int→Option (Bool)
 |0,_,_,_=>none
 |k+1,x0,x1,x5=>if x5< (x1.length:Int)then(if 0≤x5 then(if(rd x1 x5)< 0 then(some false)else(fluxionref19_Numbered.l0 k x0 x1 (wrap64 (x5+1))))else(none))else(some ((x1.length:Int)==x0))
def fluxionref19_Numbered.f(k:Nat)(a0:Int)(l1:List Int):Option (Bool):=fluxionref19_Numbered.l0 k a0 l1 0
theorem fluxionref19_Numbered.calls(k:Nat)(a0:Int)(A1:Option Addr)(c1:Nat)(l1:List Int)(r:Bool)(w:World)(hr1:Kd.C (Kd.int .i64) w A1 l1.length l1)(hc1:l1.length≤c1)(h:fluxionref19_Numbered.f k a0 l1=some r):
  Calls Tryz.prog 12 #[.int .i64 a0,.slice A1 l1.length c1] w fun e w'=>e= .returned (.bool r)∧Drawn0 w w':=by
 have HR1:=Aside0.mk hr1;have HC1:=Aside0.mk hc1;clear hr1 hc1;have H:=h;clear h;unfold fluxionref19_Numbered.f at H;have H':=Aside0.mk H;clear H;go_enter Tryz.func12,Tryz.ntmps12
 go_wp2
 go_loopg [5] k (fun kq v5 w'=> ∃ (x5_1:Int),v5= .int .i64 x5_1∧Aside0 (fluxionref19_Numbered.l0 kq a0 l1 x5_1=some r)∧Aside0 (kq≤k)∧Drawn0 w w')
 case atStart=>exact⟨(0),eS,H',⟨Nat.le_refl _⟩,by repeat(first|exact Drawn0.refl _|apply Drawn0.step)⟩
 case round=>
  clear H';(try clear c1);(try clear p2);obtain⟨x5_1,rfl,HA,HK1,⟨m1,rfl⟩⟩:=hrel;cases gk with
  |zero=>exact absurd HA.out (by simp[fluxionref19_Numbered.l0])
  |succ k1=>
   have H:=HA.out;clear HA;simp only[fluxionref19_Numbered.l0]at H;by_cases c3:x5_1< (l1.length:Int)
   ·rw[if_pos c3]at H;have c3b0:=decide_eq_true c3;clear c3;replace H:=iN H;obtain⟨c4,H⟩:=H;have c4b0:=decide_eq_true c4;clear c4;by_cases c5:(rd l1 x5_1)< 0
    ·rw[if_pos c5]at H;have c5b0:=decide_eq_true c5;clear c5;obtain rfl:=Option.some.inj H;have p298:0≤(x5_1:Int):=dQ;have q298:x5_1< (l1.length:Int):=dQ;obtain⟨ad298,e298,hx298_0⟩:=Kd.at_int HR1.out x5_1 p298 q298;cases e298;replace p298:=eq_true p298;replace q298:=eq_true q298;go_wp2
     go_ret;exact⟨by first|rfl| (simp;done) | (simp[*];done),by repeat(first|exact Drawn0.refl _|apply Drawn0.step)⟩
    ·rw[if_neg c5]at H;have c5b0:=decide_eq_false c5;clear c5;have H':=Aside0.mk H;clear H;have p298:0≤(x5_1:Int):=dQ;have q298:x5_1< (l1.length:Int):=dQ;obtain⟨ad298,e298,hx298_0⟩:=Kd.at_int HR1.out x5_1 p298 q298;cases e298;replace p298:=eq_true p298;replace q298:=eq_true q298;go_wp2
     go_roundg k1
     case measure=>have:=HK1.out;omega
     case rel=>exact⟨(wrap64 (x5_1+1)),eS,H',⟨by have:=HK1.out;omega⟩,by repeat(first|exact Drawn0.refl _|apply Drawn0.step)⟩
   ·rw[if_neg c3]at H;have c3b0:=decide_eq_false c3;clear c3;obtain rfl:=Option.some.inj H;go_wp2
    go_ret;exact⟨by first|rfl| (simp;done) | (simp[*];done),by repeat(first|exact Drawn0.refl _|apply Drawn0.step)⟩
def fluxionref19_meet.l0:Nat→List (List Bool)→Int→Int→Int→Option (Bool)
 |0,_,_,_,_=>none
 |k+1,x0,x1,x2,x7=>if x7< (x0.length:Int)then(if 0≤x7 then(if 0≤x1 then(if x1< ((rd_L1 x0 x7).length:Int)then(if rdOf false (rd_L1 x0 x7) x1=true then(if 0≤x2 then(if x2< ((rd_L1 x0 x7).length:Int)then(if rdOf false (rd_L1 x0 x7) x2=true then(some true)else(fluxionref19_meet.l0 k x0 x1 x2 (wrap64 (x7+1))))else(none))else(none))else(fluxionref19_meet.l0 k x0 x1 x2 (wrap64 (x7+1))))else(none))else(none))else(none))else(some false)
def fluxionref19_meet.f(k:Nat)(l0:List (List Bool))(a1:Int)(a2:Int):Option (Bool):=fluxionref19_meet.l0 k l0 a1 a2 0
theorem fluxionref19_meet.calls(k:Nat)(A0:Option Addr)(c0:Nat)(l0:List (List Bool))(a1:Int)(a2:Int)(r:Bool)(w:World)(hr0:Kd.C (Kd.slice 4 Kd.bool) w A0 l0.length l0)(hc0:l0.length≤c0)(h:fluxionref19_meet.f k l0 a1 a2=some r):
  Calls Tryz.prog 45 #[.slice A0 l0.length c0,.int .i64 a1,.int .i64 a2] w fun e w'=>e= .returned (.bool r)∧Drawn0 w w':=by
 have HR0:=Aside0.mk hr0;have HC0:=Aside0.mk hc0;clear hr0 hc0;have H:=h;clear h;unfold fluxionref19_meet.f at H;have H':=Aside0.mk H;clear H;go_enter Tryz.func45,Tryz.ntmps45
 go_wp2
 go_loopg [7] k (fun kq v7 w'=> ∃ (x7_1:Int),v7= .int .i64 x7_1∧Aside0 (fluxionref19_meet.l0 kq l0 a1 a2 x7_1=some r)∧Aside0 (kq≤k)∧Drawn0 w w')
 case atStart=>exact⟨(0),eS,H',⟨Nat.le_refl _⟩,by repeat(first|exact Drawn0.refl _|apply Drawn0.step)⟩
 case round=>
  clear H';(try clear p2);obtain⟨x7_1,rfl,HA,HK1,⟨m1,rfl⟩⟩:=hrel;cases gk with
  |zero=>exact absurd HA.out (by simp[fluxionref19_meet.l0])
  |succ k1=>
   have H:=HA.out;clear HA;simp only[fluxionref19_meet.l0]at H;by_cases c4:x7_1< (l0.length:Int)
   ·rw[if_pos c4]at H;have c4b0:=decide_eq_true c4;clear c4;replace H:=iN H;obtain⟨c5,H⟩:=H;have c5b0:=decide_eq_true c5;clear c5;replace H:=iN H;obtain⟨c6,H⟩:=H;have c6b0:=decide_eq_true c6;clear c6;replace H:=iN H;obtain⟨c7,H⟩:=H;have c7b0:=decide_eq_true c7;clear c7;obtain⟨bq8,hbq8⟩: ∃b_:Bool,b_=(rdOf false (rd_L1 l0 x7_1) a1):=⟨_,rfl⟩;replace H:(if bq8=true then(if 0≤a2 then(if a2< ((rd_L1 l0 x7_1).length:Int)then(if rdOf false (rd_L1 l0 x7_1) a2=true then(some true)else(fluxionref19_meet.l0 k1 l0 a1 a2 (wrap64 (x7_1+1))))else(none))else(none))else(fluxionref19_meet.l0 k1 l0 a1 a2 (wrap64 (x7_1+1))))=some r:=by rw[←hbq8]at H;exact H
    have Nbq8:=Aside0.mk hbq8;clear hbq8;by_cases c9:bq8=true
    ·subst c9;rw[if_pos rfl]at H;replace H:=iN H;obtain⟨c10,H⟩:=H;have c10b0:=decide_eq_true c10;clear c10;replace H:=iN H;obtain⟨c11,H⟩:=H;have c11b0:=decide_eq_true c11;clear c11;obtain⟨bq12,hbq12⟩: ∃b_:Bool,b_=(rdOf false (rd_L1 l0 x7_1) a2):=⟨_,rfl⟩;replace H:(if bq12=true then(some true)else(fluxionref19_meet.l0 k1 l0 a1 a2 (wrap64 (x7_1+1))))=some r:=by rw[←hbq12]at H;exact H
     have Nbq12:=Aside0.mk hbq12;clear hbq12;by_cases c13:bq12=true
     ·subst c13;rw[if_pos rfl]at H;obtain rfl:=Option.some.inj H;have p299:0≤(x7_1:Int):=dQ;have q299:x7_1< (l0.length:Int):=dQ;obtain⟨ad299,A299_0,c299_0,e299,hx299_0,hl299_0,hi299_0⟩:=at_L1 HR0.out x7_1 p299 q299;cases e299;have HR299_0:=Aside0.mk hi299_0;have HC299_0:=Aside0.mk hl299_0;clear hi299_0 hl299_0;replace p299:=eq_true p299;replace q299:=eq_true q299;have p300:0≤(a1:Int):=dQ;have q300:a1< ((rd_L1 l0 x7_1).length:Int):=dQ;obtain⟨ad300,e300,hx300_0⟩:=Kd.at_bool HR299_0.out a1 p300 q300;(try rw[←Nbq8.out]at hx300_0);(try rw[←Nbq12.out]at hx300_0);cases e300;replace p300:=eq_true p300;replace q300:=eq_true q300;have p301:0≤(x7_1:Int):=dQ;have q301:x7_1< (l0.length:Int):=dQ;obtain⟨ad301,A301_0,c301_0,e301,hx301_0,hl301_0,hi301_0⟩:=at_L1 HR0.out x7_1 p301 q301;obtain rfl:ad299=ad301:=(by injection e301);have HR301_0:=Aside0.mk hi301_0;have HC301_0:=Aside0.mk hl301_0;clear hi301_0 hl301_0;replace p301:=eq_true p301;replace q301:=eq_true q301;have ea_:=Option.some.inj (hx299_0.symm.trans hx301_0);injection ea_ with ea_ en_ ec_
      subst ea_;subst ec_;clear en_;have p302:0≤(a2:Int):=dQ;have q302:a2< ((rd_L1 l0 x7_1).length:Int):=dQ;obtain⟨ad302,e302,hx302_0⟩:=Kd.at_bool HR301_0.out a2 p302 q302;(try rw[←Nbq8.out]at hx302_0);(try rw[←Nbq12.out]at hx302_0);cases e302;replace p302:=eq_true p302;replace q302:=eq_true q302;go_wp2
      go_ret;exact⟨by first|rfl| (simp;done) | (simp[*];done),by repeat(first|exact Drawn0.refl _|apply Drawn0.step)⟩
     ·replace c13:=Bool.eq_false_iff.mpr c13;subst c13;rw[if_neg nF]at H;have H':=Aside0.mk H;clear H;have p299:0≤(x7_1:Int):=dQ;have q299:x7_1< (l0.length:Int):=dQ;obtain⟨ad299,A299_0,c299_0,e299,hx299_0,hl299_0,hi299_0⟩:=at_L1 HR0.out x7_1 p299 q299;cases e299;have HR299_0:=Aside0.mk hi299_0;have HC299_0:=Aside0.mk hl299_0;clear hi299_0 hl299_0;replace p299:=eq_true p299;replace q299:=eq_true q299;have p300:0≤(a1:Int):=dQ;have q300:a1< ((rd_L1 l0 x7_1).length:Int):=dQ;obtain⟨ad300,e300,hx300_0⟩:=Kd.at_bool HR299_0.out a1 p300 q300;(try rw[←Nbq8.out]at hx300_0);(try rw[←Nbq12.out]at hx300_0);cases e300;replace p300:=eq_true p300;replace q300:=eq_true q300;have p301:0≤(x7_1:Int):=dQ;have q301:x7_1< (l0.length:Int):=dQ;obtain⟨ad301,A301_0,c301_0,e301,hx301_0,hl301_0,hi301_0⟩:=at_L1 HR0.out x7_1 p301 q301;obtain rfl:ad299=ad301:=(by injection e301);have HR301_0:=Aside0.mk hi301_0;have HC301_0:=Aside0.mk hl301_0;clear hi301_0 hl301_0;replace p301:=eq_true p301;replace q301:=eq_true q301;have ea_:=Option.some.inj (hx299_0.symm.trans hx301_0);injection ea_ with ea_ en_ ec_
      subst ea_;subst ec_;clear en_;have p302:0≤(a2:Int):=dQ;have q302:a2< ((rd_L1 l0 x7_1).length:Int):=dQ;obtain⟨ad302,e302,hx302_0⟩:=Kd.at_bool HR301_0.out a2 p302 q302;(try rw[←Nbq8.out]at hx302_0);(try rw[←Nbq12.out]at hx302_0);cases e302;replace p302:=eq_true p302;replace q302:=eq_true q302;go_wp2
      go_roundg k1
      case measure=>have:=HK1.out;omega
      case rel=>exact⟨(wrap64 (x7_1+1)),eS,H',⟨by have:=HK1.out;omega⟩,by repeat(first|exact Drawn0.refl _|apply Drawn0.step)⟩
    ·replace c9:=Bool.eq_false_iff.mpr c9;subst c9;rw[if_neg nF]at H;have H':=Aside0.mk H;clear H;have p299:0≤(x7_1:Int):=dQ;have q299:x7_1< (l0.length:Int):=dQ;obtain⟨ad299,A299_0,c299_0,e299,hx299_0,hl299_0,hi299_0⟩:=at_L1 HR0.out x7_1 p299 q299;cases e299;have HR299_0:=Aside0.mk hi299_0;have HC299_0:=Aside0.mk hl299_0;clear hi299_0 hl299_0;replace p299:=eq_true p299;replace q299:=eq_true q299;have p300:0≤(a1:Int):=dQ;have q300:a1< ((rd_L1 l0 x7_1).length:Int):=dQ;obtain⟨ad300,e300,hx300_0⟩:=Kd.at_bool HR299_0.out a1 p300 q300;(try rw[←Nbq8.out]at hx300_0);cases e300;replace p300:=eq_true p300;replace q300:=eq_true q300;go_wp2
     go_roundg k1
     case measure=>have:=HK1.out;omega
     case rel=>exact⟨(wrap64 (x7_1+1)),eS,H',⟨by have:=HK1.out;omega⟩,by repeat(first|exact Drawn0.refl _|apply Drawn0.step)⟩
   ·rw[if_neg c4]at H;have c4b0:=decide_eq_false c4;clear c4;obtain rfl:=Option.some.inj H;go_wp2
    go_ret;exact⟨by first|rfl| (simp;done) | (simp[*];done),by repeat(first|exact Drawn0.refl _|apply Drawn0.step)⟩
mutual
def fluxionref19_Fits.l0:Nat→List (List Bool)→List Int→Int→Option (Bool)
 |0,_,_,_=>none
 |k+1,x0,x1,x5=>if x5< (x1.length:Int)then(fluxionref19_Fits.l1 k x0 x1 x5 0)else(some true)
def fluxionref19_Fits.l1:Nat→List (List Bool)→List Int→Int→Int→Option (Bool)
 |0,_,_,_,_=>none
 |k+1,x0,x1,x5,x6=>if x6< x5 then(if 0≤x5 then(if x5< (x1.length:Int)then(if 0≤x6 then(if x6< (x1.length:Int)then(if(rd x1 x5)=(rd x1 x6)then((fluxionref19_meet.f k x0 x5 x6).bind fun t305=>(if t305=true then(some false)else(fluxionref19_Fits.l1 k x0 x1 x5 (wrap64 (x6+1)))))else(fluxionref19_Fits.l1 k x0 x1 x5 (wrap64 (x6+1))))else(none))else(none))else(none))else(none))else(fluxionref19_Fits.l0 k x0 x1 (wrap64 (x5+1)))
end
def fluxionref19_Fits.f(k:Nat)(l0:List (List Bool))(l1:List Int):Option (Bool):=fluxionref19_Fits.l0 k l0 l1 0
theorem fluxionref19_Fits.calls(k:Nat)(A0:Option Addr)(c0:Nat)(l0:List (List Bool))(A1:Option Addr)(c1:Nat)(l1:List Int)(r:Bool)(w:World)(hr0:Kd.C (Kd.slice 4 Kd.bool) w A0 l0.length l0)(hc0:l0.length≤c0)(hr1:Kd.C (Kd.int .i64) w A1 l1.length l1)(hc1:l1.length≤c1)(h:fluxionref19_Fits.f k l0 l1=some r):
  Calls Tryz.prog 13 #[.slice A0 l0.length c0,.slice A1 l1.length c1] w fun e w'=>e= .returned (.bool r)∧Drawn0 w w':=by
 have HR0:=Aside0.mk hr0;have HC0:=Aside0.mk hc0;clear hr0 hc0;have HR1:=Aside0.mk hr1;have HC1:=Aside0.mk hc1;clear hr1 hc1;have H:=h;clear h;unfold fluxionref19_Fits.f at H;have H':=Aside0.mk H;clear H;go_enter Tryz.func13,Tryz.ntmps13
 go_wp2
 repeat(go_quiet (fail);try go_wp2)
 go_loopg [5] k (fun kq v5 w'=> ∃ (x5_1:Int),v5= .int .i64 x5_1∧Aside0 (fluxionref19_Fits.l0 kq l0 l1 x5_1=some r)∧Aside0 (kq≤k)∧Drawn0 w w')
 case atStart=>exact⟨(0),eS,H',⟨Nat.le_refl _⟩,by repeat(first|exact Drawn0.refl _|apply Drawn0.step)⟩
 case round=>
  clear H';(try clear c1);(try clear p2);obtain⟨x5_1,rfl,HA,HK1,⟨m1,rfl⟩⟩:=hrel;cases gk with
  |zero=>exact absurd HA.out (by simp[fluxionref19_Fits.l0])
  |succ k1=>
   have H:=HA.out;clear HA;simp only[fluxionref19_Fits.l0]at H;by_cases c3:x5_1< (l1.length:Int)
   ·rw[if_pos c3]at H;have c3b0:=decide_eq_true c3;clear c3;have H':=Aside0.mk H;clear H;go_wp2
    repeat(go_quiet (fail);try go_wp2)
    go_loopg [6] k1 (fun kq v6 w'=> ∃ (x6_2:Int),v6= .int .i64 x6_2∧Aside0 (fluxionref19_Fits.l1 kq l0 l1 x5_1 x6_2=some r)∧Aside0 (kq≤k1)∧Drawn0 w w')
    case atStart=>exact⟨(0),eS,H',⟨Nat.le_refl _⟩,by repeat(first|exact Drawn0.refl _|apply Drawn0.step)⟩
    case round=>
     clear H';(try clear c1);(try clear p2);(try clear c3);(try clear c3b0);(try clear p2);obtain⟨x6_2,rfl,HA,HK2,⟨m2,rfl⟩⟩:=hrel;cases gk with
     |zero=>exact absurd HA.out (by simp[fluxionref19_Fits.l1])
     |succ k2=>
      have H:=HA.out;clear HA;simp only[fluxionref19_Fits.l1]at H;by_cases c4:x6_2< x5_1
      ·rw[if_pos c4]at H;have c4b0:=decide_eq_true c4;clear c4;replace H:=iN H;obtain⟨c5,H⟩:=H;have c5b0:=decide_eq_true c5;clear c5;replace H:=iN H;obtain⟨c6,H⟩:=H;have c6b0:=decide_eq_true c6;clear c6;replace H:=iN H;obtain⟨c7,H⟩:=H;have c7b0:=decide_eq_true c7;clear c7;replace H:=iN H;obtain⟨c8,H⟩:=H;have c8b0:=decide_eq_true c8;clear c8;by_cases c9:(rd l1 x5_1)=(rd l1 x6_2)
       ·rw[if_pos c9]at H;have c9b0:=beq_iff_eq.mpr c9;have c9b1:=bne_eq_false_iff_eq.mpr c9;clear c9;obtain⟨t305,A10,H⟩:=bO H;(try dsimp only at H);by_cases c11:t305=true
        ·subst c11;rw[if_pos rfl]at H;obtain rfl:=Option.some.inj H;have p303:0≤(x5_1:Int):=dQ;have q303:x5_1< (l1.length:Int):=dQ;obtain⟨ad303,e303,hx303_0⟩:=Kd.at_int HR1.out x5_1 p303 q303;cases e303;replace p303:=eq_true p303;replace q303:=eq_true q303;have p304:0≤(x6_2:Int):=dQ;have q304:x6_2< (l1.length:Int):=dQ;obtain⟨ad304,e304,hx304_0⟩:=Kd.at_int HR1.out x6_2 p304 q304;obtain rfl:ad303=ad304:=(by injection e304);replace p304:=eq_true p304;replace q304:=eq_true q304;go_wp2_with (first| (go_at_call 45;(with_reducible refine(fluxionref19_meet.calls k2 _ _ l0 x5_1 x6_2 true _ (cQ (HR0.out)) HC0.out A10.out).mono ?_);rintro e w' ⟨rfl,⟨nd,rfl⟩⟩;(try first|exact⟨rfl,_,World.drewN_drewN _ _ _⟩ |exact⟨rfl,_,Eq.trans (World.drewN_drewN _ _ _) (congrArg (World.drewN _) (Nat.add_assoc _ _ _))⟩)))
         repeat(go_quiet (first| (go_at_call 45;(with_reducible refine(fluxionref19_meet.calls k2 _ _ l0 x5_1 x6_2 true _ (cQ (HR0.out)) HC0.out A10.out).mono ?_);rintro e w' ⟨rfl,⟨nd,rfl⟩⟩;(try first|exact⟨rfl,_,World.drewN_drewN _ _ _⟩ |exact⟨rfl,_,Eq.trans (World.drewN_drewN _ _ _) (congrArg (World.drewN _) (Nat.add_assoc _ _ _))⟩)));try go_wp2_with (first| (go_at_call 45;(with_reducible refine(fluxionref19_meet.calls k2 _ _ l0 x5_1 x6_2 true _ (cQ (HR0.out)) HC0.out A10.out).mono ?_);rintro e w' ⟨rfl,⟨nd,rfl⟩⟩;(try first|exact⟨rfl,_,World.drewN_drewN _ _ _⟩ |exact⟨rfl,_,Eq.trans (World.drewN_drewN _ _ _) (congrArg (World.drewN _) (Nat.add_assoc _ _ _))⟩))))
         go_ret;exact⟨by first|rfl| (simp;done) | (simp[*];done),by repeat(first|exact Drawn0.refl _|apply Drawn0.step)⟩
        ·replace c11:=Bool.eq_false_iff.mpr c11;subst c11;rw[if_neg nF]at H;have H':=Aside0.mk H;clear H;have p303:0≤(x5_1:Int):=dQ;have q303:x5_1< (l1.length:Int):=dQ;obtain⟨ad303,e303,hx303_0⟩:=Kd.at_int HR1.out x5_1 p303 q303;cases e303;replace p303:=eq_true p303;replace q303:=eq_true q303;have p304:0≤(x6_2:Int):=dQ;have q304:x6_2< (l1.length:Int):=dQ;obtain⟨ad304,e304,hx304_0⟩:=Kd.at_int HR1.out x6_2 p304 q304;obtain rfl:ad303=ad304:=(by injection e304);replace p304:=eq_true p304;replace q304:=eq_true q304;go_wp2_with (first| (go_at_call 45;(with_reducible refine(fluxionref19_meet.calls k2 _ _ l0 x5_1 x6_2 false _ (cQ (HR0.out)) HC0.out A10.out).mono ?_);rintro e w' ⟨rfl,⟨nd,rfl⟩⟩;(try first|exact⟨rfl,_,World.drewN_drewN _ _ _⟩ |exact⟨rfl,_,Eq.trans (World.drewN_drewN _ _ _) (congrArg (World.drewN _) (Nat.add_assoc _ _ _))⟩)))
         repeat(go_quiet (first| (go_at_call 45;(with_reducible refine(fluxionref19_meet.calls k2 _ _ l0 x5_1 x6_2 false _ (cQ (HR0.out)) HC0.out A10.out).mono ?_);rintro e w' ⟨rfl,⟨nd,rfl⟩⟩;(try first|exact⟨rfl,_,World.drewN_drewN _ _ _⟩ |exact⟨rfl,_,Eq.trans (World.drewN_drewN _ _ _) (congrArg (World.drewN _) (Nat.add_assoc _ _ _))⟩)));try go_wp2_with (first| (go_at_call 45;(with_reducible refine(fluxionref19_meet.calls k2 _ _ l0 x5_1 x6_2 false _ (cQ (HR0.out)) HC0.out A10.out).mono ?_);rintro e w' ⟨rfl,⟨nd,rfl⟩⟩;(try first|exact⟨rfl,_,World.drewN_drewN _ _ _⟩ |exact⟨rfl,_,Eq.trans (World.drewN_drewN _ _ _) (congrArg (World.drewN _) (Nat.add_assoc _ _ _))⟩))))
         go_roundg k2
         case measure=>have:=HK1.out;have:=HK2.out;omega
         case rel=>exact⟨(wrap64 (x6_2+1)),eS,H',⟨by have:=HK1.out;have:=HK2.out;omega⟩,by repeat(first|exact Drawn0.refl _|apply Drawn0.step)⟩
       ·rw[if_neg c9]at H;have c9b0:=beq_eq_false_iff_ne.mpr c9;have c9b1:=bne_iff_ne.mpr c9;have H':=Aside0.mk H;clear H;have p303:0≤(x5_1:Int):=dQ;have q303:x5_1< (l1.length:Int):=dQ;obtain⟨ad303,e303,hx303_0⟩:=Kd.at_int HR1.out x5_1 p303 q303;cases e303;replace p303:=eq_true p303;replace q303:=eq_true q303;have p304:0≤(x6_2:Int):=dQ;have q304:x6_2< (l1.length:Int):=dQ;obtain⟨ad304,e304,hx304_0⟩:=Kd.at_int HR1.out x6_2 p304 q304;obtain rfl:ad303=ad304:=(by injection e304);replace p304:=eq_true p304;replace q304:=eq_true q304;go_wp2
        repeat(go_quiet (fail);try go_wp2)
        go_roundg k2
        case measure=>have:=HK1.out;have:=HK2.out;omega
        case rel=>exact⟨(wrap64 (x6_2+1)),eS,H',⟨by have:=HK1.out;have:=HK2.out;omega⟩,by repeat(first|exact Drawn0.refl _|apply Drawn0.step)⟩
      ·rw[if_neg c4]at H;have c4b0:=decide_eq_false c4;clear c4;have H':=Aside0.mk H;clear H;go_wp2
       repeat(go_quiet (fail);try go_wp2)
       go_roundg k2
       case measure=>have:=HK1.out;have:=HK2.out;omega
       case rel=>exact⟨(wrap64 (x5_1+1)),eS,H',⟨by have:=HK1.out;have:=HK2.out;omega⟩,by repeat(first|exact Drawn0.refl _|apply Drawn0.step)⟩
   ·rw[if_neg c3]at H;have c3b0:=decide_eq_false c3;clear c3;obtain rfl:=Option.some.inj H;go_wp2
    repeat(go_quiet (fail);try go_wp2)
    go_ret;exact⟨by first|rfl| (simp;done) | (simp[*];done),by repeat(first|exact Drawn0.refl _|apply Drawn0.step)⟩
end Go.Proofs.YtjjbondlcjnaiaaGreat.PSparseSpreads
