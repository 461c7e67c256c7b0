-- written by a program of this session, after the kit's print
import Derived.Test.YtjjbondlcjnaiaaDoorPSparsePatternsx0
namespace Go.Proofs.YtjjbondlcjnaiaaDoor.PSparsePatterns
open Go.RowKit Go.Proofs.YtjjbondlcjnaiaaDoorW.PrintWords Go.Proofs.YtjjbondlcjnaiaaDoorW.PrintLast Go.Proofs.YtjjbondlcjnaiaaDoorW.PrintMore
set_option maxHeartbeats 8000000
set_option maxRecDepth 100000
attribute [local go_sem] max2_int min2_int max_two min_two max_three min_three max_four min_four
set_option linter.unusedVariables false
set_option linter.unusedSimpArgs false
mutual
def fluxionref19_Same.l0:Nat→List (List Bool)→List (List Bool)→Int→Option (Bool)
 |0,_,_,_=>none
 |k+1,x0,x1,x5=>if x5< (x0.length:Int)then(if 0≤x5 then(if x5< (x1.length:Int)then(if((rd_L7 x0 x5).length:Int)=((rd_L7 x1 x5).length:Int)then(fluxionref19_Same.l1 k x0 x1 x5 0)else(some false))else(none))else(none))else(some true)
def fluxionref19_Same.l1:Nat→List (List Bool)→List (List Bool)→Int→Int→Option (Bool)
 |0,_,_,_,_=>none
 |k+1,x0,x1,x5,x6=>if 0≤x5 then(if x5< (x0.length:Int)then(if x6< ((rd_L7 x0 x5).length:Int)then(if 0≤x6 then(if x5< (x1.length:Int)then(if x6< ((rd_L7 x1 x5).length:Int)then(if((rdOf false (rd_L7 x0 x5) x6) !=(rdOf false (rd_L7 x1 x5) x6))=true then(some false)else(fluxionref19_Same.l1 k x0 x1 x5 (wrap64 (x6+1))))else(none))else(none))else(none))else(fluxionref19_Same.l0 k x0 x1 (wrap64 (x5+1))))else(none))else(none)
end
def fluxionref19_Same.f(k:Nat)(l0:List (List Bool))(l1:List (List Bool)):Option (Bool):=if(l0.length:Int)=(l1.length:Int)then(fluxionref19_Same.l0 k l0 l1 0)else(some false)
theorem fluxionref19_Same.calls(k:Nat)(A0:Option Addr)(c0:Nat)(l0:List (List Bool))(A1:Option Addr)(c1:Nat)(l1:List (List Bool))(r:Bool)(w:World)(hr0:Kd.C (Kd.slice 4 Kd.bool) w A0 l0.length l0)(hc0:l0.length≤c0)(hr1:Kd.C (Kd.slice 4 Kd.bool) w A1 l1.length l1)(hc1:l1.length≤c1)(h:fluxionref19_Same.f k l0 l1=some r):
  Calls Tryd.prog 9 #[.slice A0 l0.length c0,.slice A1 l1.length c1] w fun e w'=>e= .returned (.bool r)∧Drawn0 w w':=by
 have HR0:=Aside0.mk hr0;have HC0:=Aside0.mk hc0;clear hr0 hc0;have HR1:=Aside0.mk hr1;have HC1:=Aside0.mk hc1;clear hr1 hc1;have H:=h;clear h;unfold fluxionref19_Same.f at H;by_cases c3:(l0.length:Int)=(l1.length:Int)
 ·rw[if_pos c3]at H;have c3b0:=beq_iff_eq.mpr c3;have c3b1:=bne_eq_false_iff_eq.mpr c3;have c3b2:(l0.length==l1.length)=true:=by first|simpa using c3| (simp at c3 ⊢;omega)
  clear c3;have H':=Aside0.mk H;clear H;go_enter Tryd.func9,Tryd.ntmps9
  go_wp2
  repeat(go_quiet (fail);try go_wp2)
  go_loopg [5] k (fun kq v5 w'=> ∃ (x5_1:Int),v5= .int .i64 x5_1∧Aside0 (fluxionref19_Same.l0 kq l0 l1 x5_1=some r)∧Aside0 (kq≤k)∧Drawn0 w w')
  case atStart=>exact⟨(0),eS,H',⟨Nat.le_refl _⟩,by repeat(first|exact Drawn0.refl _|apply Drawn0.step)⟩
  case round=>
   clear H';(try clear c1);(try clear p2);(try clear c3);(try clear c3b0);(try clear c3b1);(try clear c3b2);obtain⟨x5_1,rfl,HA,HK1,⟨m1,rfl⟩⟩:=hrel;cases gk with
   |zero=>exact absurd HA.out (by simp[fluxionref19_Same.l0])
   |succ k1=>
    have H:=HA.out;clear HA;simp only[fluxionref19_Same.l0]at H;by_cases c4:x5_1< (l0.length:Int)
    ·rw[if_pos c4]at H;have c4b0:=decide_eq_true c4;clear c4;replace H:=iN H;obtain⟨c5,H⟩:=H;have c5b0:=decide_eq_true c5;clear c5;replace H:=iN H;obtain⟨c6,H⟩:=H;have c6b0:=decide_eq_true c6;clear c6;by_cases c7:((rd_L7 l0 x5_1).length:Int)=((rd_L7 l1 x5_1).length:Int)
     ·rw[if_pos c7]at H;have c7b0:=beq_iff_eq.mpr c7;have c7b1:=bne_eq_false_iff_eq.mpr c7;have c7b2:((rd_L7 l0 x5_1).length==(rd_L7 l1 x5_1).length)=true:=by first|simpa using c7| (simp at c7 ⊢;omega)
      clear c7;have H':=Aside0.mk H;clear H;have p553:0≤(x5_1:Int):=dQ;have q553:x5_1< (l0.length:Int):=dQ;obtain⟨ad553,A553_0,c553_0,e553,hx553_0,hl553_0,hi553_0⟩:=at_L7 HR0.out x5_1 p553 q553;cases e553;have HR553_0:=Aside0.mk hi553_0;have HC553_0:=Aside0.mk hl553_0;clear hi553_0 hl553_0;replace p553:=eq_true p553;replace q553:=eq_true q553;have p554:0≤(x5_1:Int):=dQ;have q554:x5_1< (l1.length:Int):=dQ;obtain⟨ad554,A554_0,c554_0,e554,hx554_0,hl554_0,hi554_0⟩:=at_L7 HR1.out x5_1 p554 q554;cases e554;have HR554_0:=Aside0.mk hi554_0;have HC554_0:=Aside0.mk hl554_0;clear hi554_0 hl554_0;replace p554:=eq_true p554;replace q554:=eq_true q554;go_wp2
      repeat(go_quiet (fail);try go_wp2)
      go_loopg [6] k1 (fun kq v6 w'=> ∃ (x6_2:Int),v6= .int .i64 x6_2∧Aside0 (fluxionref19_Same.l1 kq l0 l1 x5_1 x6_2=some r)∧Aside0 (kq≤k1)∧Drawn0 w w')
      case atStart=>exact⟨(0),eS,H',⟨Nat.le_refl _⟩,by repeat(first|exact Drawn0.refl _|apply Drawn0.step)⟩
      case round=>
       clear H';(try clear c1);(try clear p2);(try clear c3);(try clear c3b0);(try clear c3b1);(try clear c3b2);(try clear c4);(try clear c4b0);(try clear c5);(try clear c5b0);(try clear p5);(try clear q5);(try clear hx5);(try clear c6);(try clear c6b0);(try clear c7);(try clear c7b0);(try clear c7b1);(try clear c7b2);(try clear hx553_0);(try clear hx554_0);(try clear p2);(try clear p553);(try clear p554);(try clear q553);(try clear q554);obtain⟨x6_2,rfl,HA,HK2,⟨m2,rfl⟩⟩:=hrel;cases gk with
       |zero=>exact absurd HA.out (by simp[fluxionref19_Same.l1])
       |succ k2=>
        have H:=HA.out;clear HA;simp only[fluxionref19_Same.l1]at H;replace H:=iN H;obtain⟨c8,H⟩:=H;have c8b0:=decide_eq_true c8;clear c8;replace H:=iN H;obtain⟨c9,H⟩:=H;have c9b0:=decide_eq_true c9;clear c9;by_cases c10:x6_2< ((rd_L7 l0 x5_1).length:Int)
        ·rw[if_pos c10]at H;have c10b0:=decide_eq_true c10;clear c10;replace H:=iN H;obtain⟨c11,H⟩:=H;have c11b0:=decide_eq_true c11;clear c11;replace H:=iN H;obtain⟨c12,H⟩:=H;have c12b0:=decide_eq_true c12;clear c12;replace H:=iN H;obtain⟨c13,H⟩:=H;have c13b0:=decide_eq_true c13;clear c13;by_cases c14:((rdOf false (rd_L7 l0 x5_1) x6_2) !=(rdOf false (rd_L7 l1 x5_1) x6_2))=true
         ·rw[if_pos c14]at H;have c14b0:((rdOf false (rd_L7 l0 x5_1) x6_2) !=(rdOf false (rd_L7 l1 x5_1) x6_2))=true:=c14;(try (have c14b1:decide ((rdOf false (rd_L7 l0 x5_1) x6_2)=(rdOf false (rd_L7 l1 x5_1) x6_2))=false:=by simpa using c14));(try (have c14b2:((rdOf false (rd_L7 l0 x5_1) x6_2)==(rdOf false (rd_L7 l1 x5_1) x6_2))=false:=by simpa using c14));(try (have c14b3: ¬ ((rdOf false (rd_L7 l0 x5_1) x6_2)=(rdOf false (rd_L7 l1 x5_1) x6_2)):=by simpa using c14));clear c14;obtain rfl:=Option.some.inj H;have p555:0≤(x5_1:Int):=dQ;have q555:x5_1< (l0.length:Int):=dQ;obtain⟨ad555,A555_0,c555_0,e555,hx555_0,hl555_0,hi555_0⟩:=at_L7 HR0.out x5_1 p555 q555;obtain rfl:ad553=ad555:=(by injection e555);have HR555_0:=Aside0.mk hi555_0;have HC555_0:=Aside0.mk hl555_0;clear hi555_0 hl555_0;replace p555:=eq_true p555;replace q555:=eq_true q555;have p556:0≤(x5_1:Int):=dQ;have q556:x5_1< (l0.length:Int):=dQ;obtain⟨ad556,A556_0,c556_0,e556,hx556_0,hl556_0,hi556_0⟩:=at_L7 HR0.out x5_1 p556 q556;obtain rfl:ad553=ad556:=(by injection e556);have HR556_0:=Aside0.mk hi556_0;have HC556_0:=Aside0.mk hl556_0;clear hi556_0 hl556_0;replace p556:=eq_true p556;replace q556:=eq_true q556;have ea_:=Option.some.inj (hx555_0.symm.trans hx556_0);injection ea_ with ea_ en_ ec_
          subst ea_;subst ec_;clear en_;have p557:0≤(x6_2:Int):=dQ;have q557:x6_2< ((rd_L7 l0 x5_1).length:Int):=dQ;obtain⟨ad557,e557,hx557_0⟩:=Kd.at_bool HR556_0.out x6_2 p557 q557;cases e557;replace p557:=eq_true p557;replace q557:=eq_true q557;have p558:0≤(x5_1:Int):=dQ;have q558:x5_1< (l1.length:Int):=dQ;obtain⟨ad558,A558_0,c558_0,e558,hx558_0,hl558_0,hi558_0⟩:=at_L7 HR1.out x5_1 p558 q558;obtain rfl:ad554=ad558:=(by injection e558);have HR558_0:=Aside0.mk hi558_0;have HC558_0:=Aside0.mk hl558_0;clear hi558_0 hl558_0;replace p558:=eq_true p558;replace q558:=eq_true q558;have p559:0≤(x6_2:Int):=dQ;have q559:x6_2< ((rd_L7 l1 x5_1).length:Int):=dQ;obtain⟨ad559,e559,hx559_0⟩:=Kd.at_bool HR558_0.out x6_2 p559 q559;cases e559;replace p559:=eq_true p559;replace q559:=eq_true q559;go_wp2
          repeat(go_quiet (fail);try go_wp2)
          go_ret;exact⟨by first|rfl| (simp;done) | (simp[*];done),by repeat(first|exact Drawn0.refl _|apply Drawn0.step)⟩
         ·rw[if_neg c14]at H;have c14b0:((rdOf false (rd_L7 l0 x5_1) x6_2) !=(rdOf false (rd_L7 l1 x5_1) x6_2))=false:=by simpa using c14
          (try (have c14b1:decide ((rdOf false (rd_L7 l0 x5_1) x6_2)=(rdOf false (rd_L7 l1 x5_1) x6_2))=true:=by simpa using c14));(try (have c14b2:((rdOf false (rd_L7 l0 x5_1) x6_2)==(rdOf false (rd_L7 l1 x5_1) x6_2))=true:=by simpa using c14));clear c14;have H':=Aside0.mk H;clear H;have p555:0≤(x5_1:Int):=dQ;have q555:x5_1< (l0.length:Int):=dQ;obtain⟨ad555,A555_0,c555_0,e555,hx555_0,hl555_0,hi555_0⟩:=at_L7 HR0.out x5_1 p555 q555;obtain rfl:ad553=ad555:=(by injection e555);have HR555_0:=Aside0.mk hi555_0;have HC555_0:=Aside0.mk hl555_0;clear hi555_0 hl555_0;replace p555:=eq_true p555;replace q555:=eq_true q555;have p556:0≤(x5_1:Int):=dQ;have q556:x5_1< (l0.length:Int):=dQ;obtain⟨ad556,A556_0,c556_0,e556,hx556_0,hl556_0,hi556_0⟩:=at_L7 HR0.out x5_1 p556 q556;obtain rfl:ad553=ad556:=(by injection e556);have HR556_0:=Aside0.mk hi556_0;have HC556_0:=Aside0.mk hl556_0;clear hi556_0 hl556_0;replace p556:=eq_true p556;replace q556:=eq_true q556;have ea_:=Option.some.inj (hx555_0.symm.trans hx556_0);injection ea_ with ea_ en_ ec_
          subst ea_;subst ec_;clear en_;have p557:0≤(x6_2:Int):=dQ;have q557:x6_2< ((rd_L7 l0 x5_1).length:Int):=dQ;obtain⟨ad557,e557,hx557_0⟩:=Kd.at_bool HR556_0.out x6_2 p557 q557;cases e557;replace p557:=eq_true p557;replace q557:=eq_true q557;have p558:0≤(x5_1:Int):=dQ;have q558:x5_1< (l1.length:Int):=dQ;obtain⟨ad558,A558_0,c558_0,e558,hx558_0,hl558_0,hi558_0⟩:=at_L7 HR1.out x5_1 p558 q558;obtain rfl:ad554=ad558:=(by injection e558);have HR558_0:=Aside0.mk hi558_0;have HC558_0:=Aside0.mk hl558_0;clear hi558_0 hl558_0;replace p558:=eq_true p558;replace q558:=eq_true q558;have p559:0≤(x6_2:Int):=dQ;have q559:x6_2< ((rd_L7 l1 x5_1).length:Int):=dQ;obtain⟨ad559,e559,hx559_0⟩:=Kd.at_bool HR558_0.out x6_2 p559 q559;cases e559;replace p559:=eq_true p559;replace q559:=eq_true q559;go_wp2
          repeat(go_quiet (fail);try go_wp2)
          go_roundg k2
          case measure=>have:=HK1.out;have:=HK2.out;omega
          case rel=>exact⟨(wrap64 (x6_2+1)),eS,H',⟨by have:=HK1.out;have:=HK2.out;omega⟩,by repeat(first|exact Drawn0.refl _|apply Drawn0.step)⟩
        ·rw[if_neg c10]at H;have c10b0:=decide_eq_false c10;clear c10;have H':=Aside0.mk H;clear H;have p555:0≤(x5_1:Int):=dQ;have q555:x5_1< (l0.length:Int):=dQ;obtain⟨ad555,A555_0,c555_0,e555,hx555_0,hl555_0,hi555_0⟩:=at_L7 HR0.out x5_1 p555 q555;obtain rfl:ad553=ad555:=(by injection e555);have HR555_0:=Aside0.mk hi555_0;have HC555_0:=Aside0.mk hl555_0;clear hi555_0 hl555_0;replace p555:=eq_true p555;replace q555:=eq_true q555;go_wp2
         repeat(go_quiet (fail);try go_wp2)
         go_roundg k2
         case measure=>have:=HK1.out;have:=HK2.out;omega
         case rel=>exact⟨(wrap64 (x5_1+1)),eS,H',⟨by have:=HK1.out;have:=HK2.out;omega⟩,by repeat(first|exact Drawn0.refl _|apply Drawn0.step)⟩
     ·rw[if_neg c7]at H;have c7b0:=beq_eq_false_iff_ne.mpr c7;have c7b1:=bne_iff_ne.mpr c7;have c7b2:((rd_L7 l0 x5_1).length==(rd_L7 l1 x5_1).length)=false:=by first|simpa using c7| (simp at c7 ⊢;omega)
      obtain rfl:=Option.some.inj H;have p553:0≤(x5_1:Int):=dQ;have q553:x5_1< (l0.length:Int):=dQ;obtain⟨ad553,A553_0,c553_0,e553,hx553_0,hl553_0,hi553_0⟩:=at_L7 HR0.out x5_1 p553 q553;cases e553;have HR553_0:=Aside0.mk hi553_0;have HC553_0:=Aside0.mk hl553_0;clear hi553_0 hl553_0;replace p553:=eq_true p553;replace q553:=eq_true q553;have p554:0≤(x5_1:Int):=dQ;have q554:x5_1< (l1.length:Int):=dQ;obtain⟨ad554,A554_0,c554_0,e554,hx554_0,hl554_0,hi554_0⟩:=at_L7 HR1.out x5_1 p554 q554;cases e554;have HR554_0:=Aside0.mk hi554_0;have HC554_0:=Aside0.mk hl554_0;clear hi554_0 hl554_0;replace p554:=eq_true p554;replace q554:=eq_true q554;go_wp2
      repeat(go_quiet (fail);try go_wp2)
      go_ret;exact⟨by first|rfl| (simp;done) | (simp[*];done),by repeat(first|exact Drawn0.refl _|apply Drawn0.step)⟩
    ·rw[if_neg c4]at H;have c4b0:=decide_eq_false c4;clear c4;obtain rfl:=Option.some.inj H;go_wp2
     repeat(go_quiet (fail);try go_wp2)
     go_ret;exact⟨by first|rfl| (simp;done) | (simp[*];done),by repeat(first|exact Drawn0.refl _|apply Drawn0.step)⟩
 ·rw[if_neg c3]at H;have c3b0:=beq_eq_false_iff_ne.mpr c3;have c3b1:=bne_iff_ne.mpr c3;have c3b2:(l0.length==l1.length)=false:=by first|simpa using c3| (simp at c3 ⊢;omega)
  obtain rfl:=Option.some.inj H;go_enter Tryd.func9,Tryd.ntmps9
  go_wp2
  repeat(go_quiet (fail);try go_wp2)
  go_ret;exact⟨by first|rfl| (simp;done) | (simp[*];done),by repeat(first|exact Drawn0.refl _|apply Drawn0.step)⟩
end Go.Proofs.YtjjbondlcjnaiaaDoor.PSparsePatterns
