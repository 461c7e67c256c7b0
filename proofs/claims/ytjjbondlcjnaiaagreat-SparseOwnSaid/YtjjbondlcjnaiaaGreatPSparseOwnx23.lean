-- written by a program of this session, after the kit's print
import Derived.Test.YtjjbondlcjnaiaaGreatPSparseOwnx21
import Derived.Test.YtjjbondlcjnaiaaGreatPSparseOwnx22
namespace Go.Proofs.YtjjbondlcjnaiaaGreat.PSparseOwn
open Go.RowKit Go.Proofs.YtjjbondlcjnaiaaGreatW.PrintWords Go.Proofs.YtjjbondlcjnaiaaGreatW.PrintLast Go.Proofs.YtjjbondlcjnaiaaGreatW.PrintMore
set_option maxHeartbeats 8000000
set_option maxRecDepth 100000
attribute [local go_sem] max2_int min2_int max_two min_two max_three min_three max_four min_four
set_option linter.unusedVariables false
set_option linter.unusedSimpArgs false
mutual
def fluxionref19_Same.l0:Nat→List (List Bool)→List (List Bool)→Int→Option (Bool)
 |0,_,_,_=>none
 |k+1,x0,x1,x5=>if x5< (x0.length:Int)then(if 0≤x5 then(if x5< (x1.length:Int)then(if((rd_L6 x0 x5).length:Int)=((rd_L6 x1 x5).length:Int)then(fluxionref19_Same.l1 k x0 x1 x5 0)else(some false))else(none))else(none))else(some true)
def fluxionref19_Same.l1:Nat→List (List Bool)→List (List Bool)→Int→Int→Option (Bool)
 |0,_,_,_,_=>none
 |k+1,x0,x1,x5,x6=>if 0≤x5 then(if x5< (x0.length:Int)then(if x6< ((rd_L6 x0 x5).length:Int)then(if 0≤x6 then(if x5< (x1.length:Int)then(if x6< ((rd_L6 x1 x5).length:Int)then(if((rdOf false (rd_L6 x0 x5) x6) !=(rdOf false (rd_L6 x1 x5) x6))=true then(some false)else(fluxionref19_Same.l1 k x0 x1 x5 (wrap64 (x6+1))))else(none))else(none))else(none))else(fluxionref19_Same.l0 k x0 x1 (wrap64 (x5+1))))else(none))else(none)
end
def fluxionref19_Same.f(k:Nat)(l0:List (List Bool))(l1:List (List Bool)):Option (Bool):=if(l0.length:Int)=(l1.length:Int)then(fluxionref19_Same.l0 k l0 l1 0)else(some false)
theorem fluxionref19_Same.calls(k:Nat)(A0:Option Addr)(c0:Nat)(l0:List (List Bool))(A1:Option Addr)(c1:Nat)(l1:List (List Bool))(r:Bool)(w:World)(hr0:Kd.C (Kd.slice 4 Kd.bool) w A0 l0.length l0)(hc0:l0.length≤c0)(hr1:Kd.C (Kd.slice 4 Kd.bool) w A1 l1.length l1)(hc1:l1.length≤c1)(h:fluxionref19_Same.f k l0 l1=some r):
  Calls Tryz.prog 29 #[.slice A0 l0.length c0,.slice A1 l1.length c1] w fun e w'=>e= .returned (.bool r)∧Drawn0 w w':=by
 have HR0:=Aside0.mk hr0;have HC0:=Aside0.mk hc0;clear hr0 hc0;have HR1:=Aside0.mk hr1;have HC1:=Aside0.mk hc1;clear hr1 hc1;have H:=h;clear h;unfold fluxionref19_Same.f at H;by_cases c3:(l0.length:Int)=(l1.length:Int)
 ·rw[if_pos c3]at H;have c3b0:=beq_iff_eq.mpr c3;have c3b1:=bne_eq_false_iff_eq.mpr c3;have c3b2:(l0.length==l1.length)=true:=by first|simpa using c3| (simp at c3 ⊢;omega)
  clear c3;have H':=Aside0.mk H;clear H;go_enter Tryz.func29,Tryz.ntmps29
  go_wp2
  repeat(go_quiet (fail);try go_wp2)
  go_loopg [5] k (fun kq v5 w'=> ∃ (x5_1:Int),v5= .int .i64 x5_1∧Aside0 (fluxionref19_Same.l0 kq l0 l1 x5_1=some r)∧Aside0 (kq≤k)∧Drawn0 w w')
  case atStart=>exact⟨(0),eS,H',⟨Nat.le_refl _⟩,by repeat(first|exact Drawn0.refl _|apply Drawn0.step)⟩
  case round=>
   clear H';(try clear c1);(try clear c2);(try clear p2);(try clear c3);(try clear c3b0);(try clear c3b1);(try clear c3b2);obtain⟨x5_1,rfl,HA,HK1,⟨m1,rfl⟩⟩:=hrel;cases gk with
   |zero=>exact absurd HA.out (by simp[fluxionref19_Same.l0])
   |succ k1=>
    have H:=HA.out;clear HA;simp only[fluxionref19_Same.l0]at H;by_cases c4:x5_1< (l0.length:Int)
    ·rw[if_pos c4]at H;have c4b0:=decide_eq_true c4;clear c4;replace H:=iN H;obtain⟨c5,H⟩:=H;have c5b0:=decide_eq_true c5;clear c5;replace H:=iN H;obtain⟨c6,H⟩:=H;have c6b0:=decide_eq_true c6;clear c6;by_cases c7:((rd_L6 l0 x5_1).length:Int)=((rd_L6 l1 x5_1).length:Int)
     ·rw[if_pos c7]at H;have c7b0:=beq_iff_eq.mpr c7;have c7b1:=bne_eq_false_iff_eq.mpr c7;have c7b2:((rd_L6 l0 x5_1).length==(rd_L6 l1 x5_1).length)=true:=by first|simpa using c7| (simp at c7 ⊢;omega)
      clear c7;have H':=Aside0.mk H;clear H;have p688:0≤(x5_1:Int):=dQ;have q688:x5_1< (l0.length:Int):=dQ;obtain⟨ad688,A688_0,c688_0,e688,hx688_0,hl688_0,hi688_0⟩:=at_L6 HR0.out x5_1 p688 q688;cases e688;have HR688_0:=Aside0.mk hi688_0;have HC688_0:=Aside0.mk hl688_0;clear hi688_0 hl688_0;replace p688:=eq_true p688;replace q688:=eq_true q688;have p689:0≤(x5_1:Int):=dQ;have q689:x5_1< (l1.length:Int):=dQ;obtain⟨ad689,A689_0,c689_0,e689,hx689_0,hl689_0,hi689_0⟩:=at_L6 HR1.out x5_1 p689 q689;cases e689;have HR689_0:=Aside0.mk hi689_0;have HC689_0:=Aside0.mk hl689_0;clear hi689_0 hl689_0;replace p689:=eq_true p689;replace q689:=eq_true q689;go_wp2
      repeat(go_quiet (fail);try go_wp2)
      go_loopg [6] k1 (fun kq v6 w'=> ∃ (x6_2:Int),v6= .int .i64 x6_2∧Aside0 (fluxionref19_Same.l1 kq l0 l1 x5_1 x6_2=some r)∧Aside0 (kq≤k1)∧Drawn0 w w')
      case atStart=>exact⟨(0),eS,H',⟨Nat.le_refl _⟩,by repeat(first|exact Drawn0.refl _|apply Drawn0.step)⟩
      case round=>
       clear H';(try clear c1);(try clear c2);(try clear p2);(try clear c3);(try clear c3b0);(try clear c3b1);(try clear c3b2);(try clear c4);(try clear c4b0);(try clear c5);(try clear c5b0);(try clear c6);(try clear c6b0);(try clear p6);(try clear q6);(try clear hx6);(try clear c7);(try clear c7b0);(try clear c7b1);(try clear c7b2);(try clear hx688_0);(try clear hx689_0);(try clear p2);(try clear p688);(try clear p689);(try clear q688);(try clear q689);obtain⟨x6_2,rfl,HA,HK2,⟨m2,rfl⟩⟩:=hrel;cases gk with
       |zero=>exact absurd HA.out (by simp[fluxionref19_Same.l1])
       |succ k2=>
        have H:=HA.out;clear HA;simp only[fluxionref19_Same.l1]at H;replace H:=iN H;obtain⟨c8,H⟩:=H;have c8b0:=decide_eq_true c8;clear c8;replace H:=iN H;obtain⟨c9,H⟩:=H;have c9b0:=decide_eq_true c9;clear c9;by_cases c10:x6_2< ((rd_L6 l0 x5_1).length:Int)
        ·rw[if_pos c10]at H;have c10b0:=decide_eq_true c10;clear c10;replace H:=iN H;obtain⟨c11,H⟩:=H;have c11b0:=decide_eq_true c11;clear c11;replace H:=iN H;obtain⟨c12,H⟩:=H;have c12b0:=decide_eq_true c12;clear c12;replace H:=iN H;obtain⟨c13,H⟩:=H;have c13b0:=decide_eq_true c13;clear c13;by_cases c14:((rdOf false (rd_L6 l0 x5_1) x6_2) !=(rdOf false (rd_L6 l1 x5_1) x6_2))=true
         ·rw[if_pos c14]at H;have c14b0:((rdOf false (rd_L6 l0 x5_1) x6_2) !=(rdOf false (rd_L6 l1 x5_1) x6_2))=true:=c14;(try (have c14b1:decide ((rdOf false (rd_L6 l0 x5_1) x6_2)=(rdOf false (rd_L6 l1 x5_1) x6_2))=false:=by simpa using c14));(try (have c14b2:((rdOf false (rd_L6 l0 x5_1) x6_2)==(rdOf false (rd_L6 l1 x5_1) x6_2))=false:=by simpa using c14));(try (have c14b3: ¬ ((rdOf false (rd_L6 l0 x5_1) x6_2)=(rdOf false (rd_L6 l1 x5_1) x6_2)):=by simpa using c14));clear c14;obtain rfl:=Option.some.inj H;have p690:0≤(x5_1:Int):=dQ;have q690:x5_1< (l0.length:Int):=dQ;obtain⟨ad690,A690_0,c690_0,e690,hx690_0,hl690_0,hi690_0⟩:=at_L6 HR0.out x5_1 p690 q690;obtain rfl:ad688=ad690:=(by injection e690);have HR690_0:=Aside0.mk hi690_0;have HC690_0:=Aside0.mk hl690_0;clear hi690_0 hl690_0;replace p690:=eq_true p690;replace q690:=eq_true q690;have p691:0≤(x5_1:Int):=dQ;have q691:x5_1< (l0.length:Int):=dQ;obtain⟨ad691,A691_0,c691_0,e691,hx691_0,hl691_0,hi691_0⟩:=at_L6 HR0.out x5_1 p691 q691;obtain rfl:ad688=ad691:=(by injection e691);have HR691_0:=Aside0.mk hi691_0;have HC691_0:=Aside0.mk hl691_0;clear hi691_0 hl691_0;replace p691:=eq_true p691;replace q691:=eq_true q691;have ea_:=Option.some.inj (hx690_0.symm.trans hx691_0);injection ea_ with ea_ en_ ec_
          subst ea_;subst ec_;clear en_;have p692:0≤(x6_2:Int):=dQ;have q692:x6_2< ((rd_L6 l0 x5_1).length:Int):=dQ;obtain⟨ad692,e692,hx692_0⟩:=Kd.at_bool HR691_0.out x6_2 p692 q692;cases e692;replace p692:=eq_true p692;replace q692:=eq_true q692;have p693:0≤(x5_1:Int):=dQ;have q693:x5_1< (l1.length:Int):=dQ;obtain⟨ad693,A693_0,c693_0,e693,hx693_0,hl693_0,hi693_0⟩:=at_L6 HR1.out x5_1 p693 q693;obtain rfl:ad689=ad693:=(by injection e693);have HR693_0:=Aside0.mk hi693_0;have HC693_0:=Aside0.mk hl693_0;clear hi693_0 hl693_0;replace p693:=eq_true p693;replace q693:=eq_true q693;have p694:0≤(x6_2:Int):=dQ;have q694:x6_2< ((rd_L6 l1 x5_1).length:Int):=dQ;obtain⟨ad694,e694,hx694_0⟩:=Kd.at_bool HR693_0.out x6_2 p694 q694;cases e694;replace p694:=eq_true p694;replace q694:=eq_true q694;go_wp2
          repeat(go_quiet (fail);try go_wp2)
          go_ret;exact⟨by first|rfl| (simp;done) | (simp[*];done),by repeat(first|exact Drawn0.refl _|apply Drawn0.step)⟩
         ·rw[if_neg c14]at H;have c14b0:((rdOf false (rd_L6 l0 x5_1) x6_2) !=(rdOf false (rd_L6 l1 x5_1) x6_2))=false:=by simpa using c14
          (try (have c14b1:decide ((rdOf false (rd_L6 l0 x5_1) x6_2)=(rdOf false (rd_L6 l1 x5_1) x6_2))=true:=by simpa using c14));(try (have c14b2:((rdOf false (rd_L6 l0 x5_1) x6_2)==(rdOf false (rd_L6 l1 x5_1) x6_2))=true:=by simpa using c14));clear c14;have H':=Aside0.mk H;clear H;have p690:0≤(x5_1:Int):=dQ;have q690:x5_1< (l0.length:Int):=dQ;obtain⟨ad690,A690_0,c690_0,e690,hx690_0,hl690_0,hi690_0⟩:=at_L6 HR0.out x5_1 p690 q690;obtain rfl:ad688=ad690:=(by injection e690);have HR690_0:=Aside0.mk hi690_0;have HC690_0:=Aside0.mk hl690_0;clear hi690_0 hl690_0;replace p690:=eq_true p690;replace q690:=eq_true q690;have p691:0≤(x5_1:Int):=dQ;have q691:x5_1< (l0.length:Int):=dQ;obtain⟨ad691,A691_0,c691_0,e691,hx691_0,hl691_0,hi691_0⟩:=at_L6 HR0.out x5_1 p691 q691;obtain rfl:ad688=ad691:=(by injection e691);have HR691_0:=Aside0.mk hi691_0;have HC691_0:=Aside0.mk hl691_0;clear hi691_0 hl691_0;replace p691:=eq_true p691;replace q691:=eq_true q691;have ea_:=Option.some.inj (hx690_0.symm.trans hx691_0);injection ea_ with ea_ en_ ec_
          subst ea_;subst ec_;clear en_;have p692:0≤(x6_2:Int):=dQ;have q692:x6_2< ((rd_L6 l0 x5_1).length:Int):=dQ;obtain⟨ad692,e692,hx692_0⟩:=Kd.at_bool HR691_0.out x6_2 p692 q692;cases e692;replace p692:=eq_true p692;replace q692:=eq_true q692;have p693:0≤(x5_1:Int):=dQ;have q693:x5_1< (l1.length:Int):=dQ;obtain⟨ad693,A693_0,c693_0,e693,hx693_0,hl693_0,hi693_0⟩:=at_L6 HR1.out x5_1 p693 q693;obtain rfl:ad689=ad693:=(by injection e693);have HR693_0:=Aside0.mk hi693_0;have HC693_0:=Aside0.mk hl693_0;clear hi693_0 hl693_0;replace p693:=eq_true p693;replace q693:=eq_true q693;have p694:0≤(x6_2:Int):=dQ;have q694:x6_2< ((rd_L6 l1 x5_1).length:Int):=dQ;obtain⟨ad694,e694,hx694_0⟩:=Kd.at_bool HR693_0.out x6_2 p694 q694;cases e694;replace p694:=eq_true p694;replace q694:=eq_true q694;go_wp2
          repeat(go_quiet (fail);try go_wp2)
          go_roundg k2
          case measure=>have:=HK1.out;have:=HK2.out;omega
          case rel=>exact⟨(wrap64 (x6_2+1)),eS,H',⟨by have:=HK1.out;have:=HK2.out;omega⟩,by repeat(first|exact Drawn0.refl _|apply Drawn0.step)⟩
        ·rw[if_neg c10]at H;have c10b0:=decide_eq_false c10;clear c10;have H':=Aside0.mk H;clear H;have p690:0≤(x5_1:Int):=dQ;have q690:x5_1< (l0.length:Int):=dQ;obtain⟨ad690,A690_0,c690_0,e690,hx690_0,hl690_0,hi690_0⟩:=at_L6 HR0.out x5_1 p690 q690;obtain rfl:ad688=ad690:=(by injection e690);have HR690_0:=Aside0.mk hi690_0;have HC690_0:=Aside0.mk hl690_0;clear hi690_0 hl690_0;replace p690:=eq_true p690;replace q690:=eq_true q690;go_wp2
         repeat(go_quiet (fail);try go_wp2)
         go_roundg k2
         case measure=>have:=HK1.out;have:=HK2.out;omega
         case rel=>exact⟨(wrap64 (x5_1+1)),eS,H',⟨by have:=HK1.out;have:=HK2.out;omega⟩,by repeat(first|exact Drawn0.refl _|apply Drawn0.step)⟩
     ·rw[if_neg c7]at H;have c7b0:=beq_eq_false_iff_ne.mpr c7;have c7b1:=bne_iff_ne.mpr c7;have c7b2:((rd_L6 l0 x5_1).length==(rd_L6 l1 x5_1).length)=false:=by first|simpa using c7| (simp at c7 ⊢;omega)
      obtain rfl:=Option.some.inj H;have p688:0≤(x5_1:Int):=dQ;have q688:x5_1< (l0.length:Int):=dQ;obtain⟨ad688,A688_0,c688_0,e688,hx688_0,hl688_0,hi688_0⟩:=at_L6 HR0.out x5_1 p688 q688;cases e688;have HR688_0:=Aside0.mk hi688_0;have HC688_0:=Aside0.mk hl688_0;clear hi688_0 hl688_0;replace p688:=eq_true p688;replace q688:=eq_true q688;have p689:0≤(x5_1:Int):=dQ;have q689:x5_1< (l1.length:Int):=dQ;obtain⟨ad689,A689_0,c689_0,e689,hx689_0,hl689_0,hi689_0⟩:=at_L6 HR1.out x5_1 p689 q689;cases e689;have HR689_0:=Aside0.mk hi689_0;have HC689_0:=Aside0.mk hl689_0;clear hi689_0 hl689_0;replace p689:=eq_true p689;replace q689:=eq_true q689;go_wp2
      repeat(go_quiet (fail);try go_wp2)
      go_ret;exact⟨by first|rfl| (simp;done) | (simp[*];done),by repeat(first|exact Drawn0.refl _|apply Drawn0.step)⟩
    ·rw[if_neg c4]at H;have c4b0:=decide_eq_false c4;clear c4;obtain rfl:=Option.some.inj H;go_wp2
     repeat(go_quiet (fail);try go_wp2)
     go_ret;exact⟨by first|rfl| (simp;done) | (simp[*];done),by repeat(first|exact Drawn0.refl _|apply Drawn0.step)⟩
 ·rw[if_neg c3]at H;have c3b0:=beq_eq_false_iff_ne.mpr c3;have c3b1:=bne_iff_ne.mpr c3;have c3b2:(l0.length==l1.length)=false:=by first|simpa using c3| (simp at c3 ⊢;omega)
  obtain rfl:=Option.some.inj H;go_enter Tryz.func29,Tryz.ntmps29
  go_wp2
  repeat(go_quiet (fail);try go_wp2)
  go_ret;exact⟨by first|rfl| (simp;done) | (simp[*];done),by repeat(first|exact Drawn0.refl _|apply Drawn0.step)⟩
def Like(u u':Value):Prop:=u'=u∨(∃d d',u= .int .u32 d∧u'= .int .u32 d')∨(∃d d',u= .int .i64 d∧u'= .int .i64 d')∨(∃b b',u= .bool b∧u'= .bool b')∨(∃A n c,u= .slice A n c∧u'= .slice none 0 0)
theorem like_u32{u:Value}{d d':Int}(h:Like u (.int .u32 d)):Like u (.int .u32 d'):=by
 rcases h with h| ⟨a,b,h,_⟩ | ⟨a,b,_,h⟩ | ⟨a,b,_,h⟩ | ⟨a,b,c,_,h⟩
 ·exact Or.inr (Or.inl ⟨d,d',h.symm,rfl⟩)
 ·exact Or.inr (Or.inl ⟨a,d',h,rfl⟩)
 all_goals cases h
theorem like_i64{u:Value}{d d':Int}(h:Like u (.int .i64 d)):Like u (.int .i64 d'):=by
 rcases h with h| ⟨a,b,_,h⟩ | ⟨a,b,h,_⟩ | ⟨a,b,_,h⟩ | ⟨a,b,c,_,h⟩
 ·exact Or.inr (Or.inr (Or.inl ⟨d,d',h.symm,rfl⟩))
 ·cases h
 ·exact Or.inr (Or.inr (Or.inl ⟨a,d',h,rfl⟩))
 all_goals cases h
theorem like_bool{u:Value}{d d':Bool}(h:Like u (.bool d)):Like u (.bool d'):=by
 rcases h with h| ⟨a,b,_,h⟩ | ⟨a,b,_,h⟩ | ⟨a,b,h,_⟩ | ⟨a,b,c,_,h⟩
 ·exact Or.inr (Or.inr (Or.inr (Or.inl ⟨d,d',h.symm,rfl⟩)))
 ·cases h
 ·cases h
 ·exact Or.inr (Or.inr (Or.inr (Or.inl ⟨a,d',h,rfl⟩)))
 ·cases h
theorem like_nil{u:Value}{A:Option Addr}{n c:Nat}(h:Like u (.slice A n c)):Like u (.slice none 0 0):=by
 rcases h with h| ⟨a,b,_,h⟩ | ⟨a,b,_,h⟩ | ⟨a,b,_,h⟩ | ⟨a,b,c,h,_⟩
 ·exact Or.inr (Or.inr (Or.inr (Or.inr ⟨A,n,c,h.symm,rfl⟩)))
 ·cases h
 ·cases h
 ·cases h
 ·exact Or.inr (Or.inr (Or.inr (Or.inr ⟨a,b,c,h,rfl⟩)))
theorem like_of_u32{d:Int}{u:Value}(h:Like (.int .u32 d) u): ∃d',u= .int .u32 d':=by
 rcases h with h| ⟨a,b,_,h⟩ | ⟨a,b,h,_⟩ | ⟨a,b,h,_⟩ | ⟨a,b,c,h,_⟩
 ·exact⟨d,h⟩
 ·exact⟨b,h⟩
 all_goals cases h
theorem like_of_i64{d:Int}{u:Value}(h:Like (.int .i64 d) u): ∃d',u= .int .i64 d':=by
 rcases h with h| ⟨a,b,h,_⟩ | ⟨a,b,_,h⟩ | ⟨a,b,h,_⟩ | ⟨a,b,c,h,_⟩
 ·exact⟨d,h⟩
 ·cases h
 ·exact⟨b,h⟩
 all_goals cases h
theorem like_of_bool{d:Bool}{u:Value}(h:Like (.bool d) u): ∃d',u= .bool d':=by
 rcases h with h| ⟨a,b,h,_⟩ | ⟨a,b,h,_⟩ | ⟨a,b,_,h⟩ | ⟨a,b,c,h,_⟩
 ·exact⟨d,h⟩
 ·cases h
 ·cases h
 ·exact⟨b,h⟩
 ·cases h
theorem like_of_slice{A:Option Addr}{n c:Nat}{u:Value}(h:Like (.slice A n c) u):u= .slice A n c∨u= .slice none 0 0:=by
 rcases h with h| ⟨a,b,h,_⟩ | ⟨a,b,h,_⟩ | ⟨a,b,h,_⟩ | ⟨a,b,c,_,h⟩
 ·exact Or.inl h
 ·cases h
 ·cases h
 ·cases h
 ·exact Or.inr h
theorem lies_set{W:World}{a:Addr}{u:Value}(h:Lies W a u)(p:Addr)(v:Value):Lies (W.setCell p v) a u∨(a=p∧Lies (W.setCell p v) a v):=by
 by_cases hb:a.block=p.block
 ·obtain⟨h1,h2⟩:=h;unfold World.cell? at h1;cases hh:W.heap[a.block]? with
  |none=>rw[hh]at h1;cases h1
  |some o=>
   rw[hh]at h1;cases o with
   |cells c t fr=>
    have hsp:a.spot.isSome=false:=by
     cases hs:a.spot.isSome with
     |false=>rfl
     |true=>simp[hs]at h1
    simp only[hsp]at h1;have hc:c[a.off]? =some u:=h1;have hn:(W.setCell p v).heap[a.block]? =some (.cells (if p.spot.isSome then c else c.setIfInBounds p.off v) t fr):=by
     simp only[World.setCell,Array.getElem?_modify,←hb,if_true,hh,Option.map_some]
    have hf:(W.setCell p v).frozen? a=false:=by
     rw[←h2];simp only[World.frozen?,hn,hh]
    by_cases hps:p.spot.isSome=true
    ·refine Or.inl ⟨?_,hf⟩;simp only[World.cell?,hn,hsp,hps,if_true];exact hc
    ·have hps':p.spot.isSome=false:=by simpa using hps
     by_cases ho:a.off=p.off
     ·right
      have e:a=p:=by
       cases a with
       |mk b1 o1 s1=>cases p with
        |mk b2 o2 s2=>
         simp only at hb ho hsp hps';subst hb ho;cases s1<;>cases s2<;>simp_all
      refine⟨e,?_,hf⟩;have hlt:a.off< c.size:=(Array.getElem?_eq_some_iff.1 hc).1;simp only[World.cell?,hn,hsp,hps',Bool.false_eq_true,if_false,←ho];rw[Array.getElem?_setIfInBounds_self_of_lt hlt]
     ·left
      refine⟨?_,hf⟩;simp only[World.cell?,hn,hsp,hps',Bool.false_eq_true,if_false];rw[Array.getElem?_setIfInBounds_ne (Ne.symm ho)];exact hc
   |_=>cases h1
 ·exact Or.inl (lies_heap (Below.heap_setCell W p v a.block hb) h)
theorem lies_ne{W:World}{a p:Addr}{u v:Value}(h:Lies W a u)(hne:a≠p):Lies (W.setCell p v) a u:=(lies_set h p v).elim id (fun e=>absurd e.1 hne)
def Turn(S:Nat→Prop)(W0 W:World):Prop:= ∀ (a:Addr) (u:Value),Lies W0 a u→ ∃u',Lies W a u'∧Like u u'∧(S a.block→u'=u)
section
variable {S:Nat→Prop} {W0 W:World} {B:Nat}
theorem Turn.refl(S:Nat→Prop)(W:World):Turn S W W:=fun a u h=>⟨u,h,Or.inl rfl,fun _=>rfl⟩
theorem Turn.drew(h:Turn S W0 W):Turn S W0 W.drew:=fun a u ha=>h a u ha
theorem Turn.set_(h:Turn S W0 W){p:Addr}(hp: ¬S p.block){x v:Value}(hl:Lies W p x)(hx: ∀u,Like u x→Like u v):Turn S W0 (W.setCell p v):=by
 intro a u ha;obtain⟨u',h1,h2,h3⟩:=h a u ha;rcases lies_set h1 p v with h4| ⟨rfl,h4⟩
 ·exact⟨u',h4,h2,h3⟩
 ·have e:u'=x:=Option.some.inj (h1.1.symm.trans hl.1);subst e;exact⟨v,h4,hx u h2,fun hS=>absurd hS hp⟩
theorem Turn.same(h:Turn S W0 W){a:Addr}{u:Value}(ha:Lies W0 a u)(hS:S a.block):Lies W a u:=by
 obtain⟨u',h1,_,h3⟩:=h a u ha;rw[h3 hS]at h1;exact h1
def NumT(W0:World)(B:Nat)(S:Nat→Prop)(u:Value):Prop:= ∃A n c,u= .slice A n c∧n≤9223372036854775807∧ ∀y:Nat,y< n→ ∃ad d,A=some ad∧B≤ad.block∧ ¬S ad.block∧Lies W0 (ad.add y) (.int .u32 d)
theorem NumT.nil(W0:World)(B:Nat)(S:Nat→Prop):NumT W0 B S (.slice none 0 0):=⟨none,0,0,rfl,by omega,fun y hy=>by omega⟩
def RatT(W0:World)(B:Nat)(S:Nat→Prop)(ad:Addr)(x:Nat):Prop:= ∃f b A2 n2 c2 A3 n3 c3,Lies W0 (ad.add (x * 4)) (.int .i64 f)∧Lies W0 ⟨(ad.add (x * 4)).block,(ad.add (x * 4)).off+1,none⟩ (.bool b)∧Lies W0 ⟨(ad.add (x * 4)).block,(ad.add (x * 4)).off+2,none⟩ (.slice A2 n2 c2)∧Lies W0 ⟨(ad.add (x * 4)).block,(ad.add (x * 4)).off+3,none⟩ (.slice A3 n3 c3)∧NumT W0 B S (.slice A2 n2 c2)
def RowT(W0:World)(B:Nat)(S:Nat→Prop)(u:Value):Prop:= ∃A n c,u= .slice A n c∧n≤9223372036854775807∧ ∀x:Nat,x< n→ ∃ad,A=some ad∧B≤ad.block∧ ¬S ad.block∧RatT W0 B S ad x
def MatT(W0:World)(B:Nat)(S:Nat→Prop)(u:Value):Prop:= ∃A n c,u= .slice A n c∧n≤9223372036854775807∧ ∀k:Nat,k< n→ ∃ad u',A=some ad∧S ad.block∧Lies W0 (ad.add k) u'∧RowT W0 B S u'
theorem NumT.mk{ok:Nat→Prop}{A:Option Addr}{n c:Nat}{xs:List Int}(h:Kd.F (Kd.int .u32) W0 ok A n xs)(hok: ∀k,ok k→B≤k∧ ¬S k):NumT W0 B S (.slice A n c):=by
 refine⟨A,n,c,rfl,(Kd.F_now h).2.1,fun y hy=>?_⟩;obtain⟨ad,cc,rfl,hcl,hK,hcc,hin⟩:=Kd.F_get h 0 (y:Int) (by omega) (by omega);have hK':cc= [.int .u32 (xs.getD (y:Int).toNat 0)] :=Kd.FK_now hK;subst hK';have h1:=hcc 0 _ rfl;have h2:=hok _ (hin (by decide));rw[Int.toNat_natCast,show(Kd.int .u32).sz=1 from rfl,Nat.mul_one,Nat.add_zero]at h1;exact⟨ad,_,rfl,h2.1,h2.2,h1⟩
theorem RowT.mk{ok:Nat→Prop}{A:Option Addr}{n c:Nat}{xs:List S59}(h:Kd.F k59 W0 ok A n xs)(hok: ∀k,ok k→B≤k∧ ¬S k):RowT W0 B S (.slice A n c):=by
 refine⟨A,n,c,rfl,(Kd.F_now h).2.1,fun x hx=>?_⟩;obtain⟨ad,cc,rfl,hcl,hK,hcc,hin⟩:=Kd.F_get h dRat (x:Int) (by omega) (by omega);obtain⟨A2,c2,A3,c3,rfl,_,hF2,_,hF3⟩:=k59_openF hK;have h2:=hok _ (hin (by decide));rw[Int.toNat_natCast,show k59.sz=4 from rfl]at hcc;have l0:=hcc 0 _ rfl;have l1:=hcc 1 _ rfl;have l2:=hcc 2 _ rfl;have l3:=hcc 3 _ rfl;rw[Nat.add_zero]at l0;rw[add_field _ _ _ (by omega)]at l1 l2 l3;exact⟨ad,rfl,h2.1,h2.2,_,_,_,_,_,_,_,_,l0,l1,l2,l3,NumT.mk hF2 hok⟩
theorem MatT.mk{ok:Nat→Prop}{b0:Nat}{v:Value}{L:List (List S59)}(h:Kd.N (Kd.slice 59 k59) 35 W0 b0 ok v L)(hS: ∀k,v.ownBlock=some k→S k)(hok: ∀k,ok k→some k≠v.ownBlock→B≤k∧ ¬S k):MatT W0 B S v:=by
 obtain⟨A,c,rfl⟩:=Kd.N_slice h;have hC:=(Kd.N_reads' h).2.2;refine⟨A,L.length,c,rfl,hC.2.1,fun k hk=>?_⟩;obtain⟨ad,cc,rfl,hcl,hK,hcc⟩:=ReadsRow.get_ hC [] (k:Int) (by omega) (by omega);obtain⟨c',hcl',hFK,hcc'⟩:=Kd.N_get h [] (k:Int) (by omega) (by omega);obtain⟨A2,c2,rfl,hl2,hF⟩:=Kd.FK_slice_open hFK;have hz:0< cc.length:=by rw[hcl];decide
 have h1:=hcc 0 _ (List.getElem?_eq_getElem hz);have h2:=hcc' 0 _ rfl;have e:cc[0] = .slice A2 (L.getD (k:Int).toNat []).length c2:=Option.some.inj (h1.1.symm.trans h2);rw[e,Int.toNat_natCast,show(Kd.slice 59 k59).sz=1 from rfl,Nat.mul_one,Nat.add_zero]at h1;rw[Int.toNat_natCast]at hF;exact⟨ad,_,rfl,hS ad.block rfl,h1,RowT.mk hF (fun k hk=>hok k hk.1 hk.2)⟩
theorem Turn.rat(h:Turn S W0 W){ad:Addr}{x:Nat}(hr:RatT W0 B S ad x): ∃f b A2 n2 c2 A3 n3 c3,Lies W (ad.add (x * 4)) (.int .i64 f)∧Lies W ⟨(ad.add (x * 4)).block,(ad.add (x * 4)).off+1,none⟩ (.bool b)∧Lies W ⟨(ad.add (x * 4)).block,(ad.add (x * 4)).off+2,none⟩ (.slice A2 n2 c2)∧Lies W ⟨(ad.add (x * 4)).block,(ad.add (x * 4)).off+3,none⟩ (.slice A3 n3 c3)∧NumT W0 B S (.slice A2 n2 c2):=by
 obtain⟨f,b,A2,n2,c2,A3,n3,c3,l0,l1,l2,l3,hN⟩:=hr;obtain⟨u0,m0,k0,_⟩:=h _ _ l0;obtain⟨u1,m1,k1,_⟩:=h _ _ l1;obtain⟨u2,m2,k2,_⟩:=h _ _ l2;obtain⟨u3,m3,k3,_⟩:=h _ _ l3;obtain⟨f',rfl⟩:=like_of_i64 k0;obtain⟨b',rfl⟩:=like_of_bool k1;have t3: ∃A n c,u3= .slice A n c:=by
  rcases like_of_slice k3 with h3|h3
  ·exact⟨_,_,_,h3⟩
  ·exact⟨_,_,_,h3⟩
 obtain⟨A3',n3',c3',rfl⟩:=t3;rcases like_of_slice k2 with h2|h2
 ·subst h2;exact⟨f',b',A2,n2,c2,A3',n3',c3',m0,m1,m2,m3,hN⟩
 ·subst h2;exact⟨f',b',none,0,0,A3',n3',c3',m0,m1,m2,m3,NumT.nil _ _ _⟩
theorem Turn.zero(h:Turn S W0 W){a:Addr}{f:Int}{b:Bool}{A2 A3:Option Addr}{n2 c2 n3 c3:Nat}(hs: ¬S a.block)(l0:Lies W a (.int .i64 f))(l1:Lies W ⟨a.block,a.off+1,none⟩ (.bool b))(l2:Lies W ⟨a.block,a.off+2,none⟩ (.slice A2 n2 c2))(l3:Lies W ⟨a.block,a.off+3,none⟩ (.slice A3 n3 c3)):
  Turn S W0 ((((W.setCell a (.int .i64 0)).setCell ⟨a.block,a.off+1,none⟩ (.bool false)).setCell ⟨a.block,a.off+2,none⟩ (.slice none 0 0)).setCell ⟨a.block,a.off+3,none⟩ (.slice none 0 0)):=by
 have ne: ∀ {i:Nat},0< i→(⟨a.block,a.off+i,none⟩:Addr)≠a:=fun hi e=>by have:=congrArg Addr.off e;simp at this;omega
 have ne2: ∀ {i j:Nat},i≠j→(⟨a.block,a.off+i,none⟩:Addr)≠⟨a.block,a.off+j,none⟩:=fun hi e=>by have:=congrArg Addr.off e;simp at this;omega
 refine Turn.set_ (Turn.set_ (Turn.set_ (Turn.set_ h hs l0 (fun _=>like_i64)) (p:=⟨a.block,a.off+1,none⟩) hs (lies_ne l1 (ne (by omega))) (fun _=>like_bool)) (p:=⟨a.block,a.off+2,none⟩) hs (lies_ne (lies_ne l2 (ne (by omega))) (ne2 (by omega))) (fun _=>like_nil)) (p:=⟨a.block,a.off+3,none⟩) hs (lies_ne (lies_ne (lies_ne l3 (ne (by omega))) (ne2 (by omega))) (ne2 (by omega))) (fun _=>like_nil)
theorem zero_lies{a:Addr}{b:Bool}{A2 A3:Option Addr}{n2 c2 n3 c3:Nat}(l1:Lies W ⟨a.block,a.off+1,none⟩ (.bool b))(l2:Lies W ⟨a.block,a.off+2,none⟩ (.slice A2 n2 c2))(l3:Lies W ⟨a.block,a.off+3,none⟩ (.slice A3 n3 c3)):
  Lies (W.setCell a (.int .i64 0)) ⟨a.block,a.off+1,none⟩ (.bool b)∧Lies ((W.setCell a (.int .i64 0)).setCell ⟨a.block,a.off+1,none⟩ (.bool false)) ⟨a.block,a.off+2,none⟩ (.slice A2 n2 c2)∧Lies (((W.setCell a (.int .i64 0)).setCell ⟨a.block,a.off+1,none⟩ (.bool false)).setCell ⟨a.block,a.off+2,none⟩ (.slice none 0 0)) ⟨a.block,a.off+3,none⟩ (.slice A3 n3 c3):=by
 have ne: ∀ {i:Nat},0< i→(⟨a.block,a.off+i,none⟩:Addr)≠a:=fun hi e=>by have:=congrArg Addr.off e;simp at this;omega
 have ne2: ∀ {i j:Nat},i≠j→(⟨a.block,a.off+i,none⟩:Addr)≠⟨a.block,a.off+j,none⟩:=fun hi e=>by have:=congrArg Addr.off e;simp at this;omega
 exact⟨lies_ne l1 (ne (by omega)),lies_ne (lies_ne l2 (ne (by omega))) (ne2 (by omega)),lies_ne (lies_ne (lies_ne l3 (ne (by omega))) (ne2 (by omega))) (ne2 (by omega))⟩
theorem below_zero{w:World}{B:Nat}{a:Addr}(h:Below B w W)(hb:B≤a.block)(u0 u1 u2 u3:Value):Below B w ((((W.setCell a u0).setCell ⟨a.block,a.off+1,none⟩ u1).setCell ⟨a.block,a.off+2,none⟩ u2).setCell ⟨a.block,a.off+3,none⟩ u3):=
 Below.setCell (Below.setCell (Below.setCell (Below.setCell h hb u0) (p:=⟨a.block,a.off+1,none⟩) hb u1) (p:=⟨a.block,a.off+2,none⟩) hb u2) (p:=⟨a.block,a.off+3,none⟩) hb u3
end
theorem all_mk{w:World}{n7 n8 n9 b7 b8:Nat}{vF vB:Value}{few bk:List (List S59)}(HF:Kd.N (Kd.slice 59 k59) 35 w b7 (fun k=>n7≤k∧k< n8) vF few)(HG:Kd.N (Kd.slice 59 k59) 35 w b8 (fun k=>n8≤k∧k< n9) vB bk)(h78:n7≤n8):
  ∃S:Nat→Prop,S w.heap.size∧ ∀i:Nat,i< 2→ ∃v,Lies (w.alloc (.cells #[vF,vB] 24)) ((⟨w.heap.size,0,none⟩:Addr).add i) v∧MatT (w.alloc (.cells #[vF,vB] 24)) n7 S v:=by
 have hF:=Kd.N_bound HF;have hG:=Kd.N_bound HG;refine⟨fun k=>k=w.heap.size∨some k=vF.ownBlock∨some k=vB.ownBlock,Or.inl rfl,fun i hi=>?_⟩
 match i,hi with
 |0,_=>
  refine⟨vF,lies_new (add_block _ _) (by rw[add_plain,World.cell?_alloc_new];rfl),MatT.mk (Kd.N_alloc hF _) (fun k hk=>Or.inr (Or.inl hk.symm)) (fun k hk hne=>⟨hk.1.1,fun hs=>?_⟩)⟩;rcases hs with h|h|h
  ·have:=hk.2;omega
  ·exact hne h
  ·have:=(hG.1 k h.symm).1.1;have:=hk.1.2;omega
 |1,_=>
  refine⟨vB,lies_new (add_block _ _) (by rw[add_plain,World.cell?_alloc_new];rfl),MatT.mk (Kd.N_alloc hG _) (fun k hk=>Or.inr (Or.inr hk.symm)) (fun k hk hne=>⟨Nat.le_trans h78 hk.1.1,fun hs=>?_⟩)⟩;rcases hs with h|h|h
  ·have:=hk.2;omega
  ·have:=(hF.1 k h.symm).1.2;have:=hk.1.1;omega
  ·exact hne h
def fluxionlaw19_SparseOwn.f(k:Nat)(l0:List (List Bool))(a1:Int)(l2:List (List S59)):Option Bool:=
 (fluxionlaw19_fit.f k l0 (wrap64 (Int.tmod a1 10))).bind fun p=>(fluxionref19_Cut.f k p 100 100).bind fun kp=>(fluxionlaw19_inside.f k p l2).bind fun m=>(fluxionref14_CutMatrix.f k m 100 100).bind fun od=>(sparse_Colours.f p (wrap64 (Int.tmod a1 10))).bind fun c=>(sparse_Squeeze.f k m c.1).bind fun few=>(sparse_Spread.f k p c.1 few.1).bind fun bk=>
  if c.2=0∧few.2=0∧bk.2=0∧c.1.length< 1000000∧fluxionref19_Same.f k p kp=some true∧fluxionref14_Same.f k m od=some true∧fluxionref08_Ints.f k c.1 c.1=some true∧fluxionlaw19_alive.f=some true then some true else none
theorem fluxionlaw19_SparseOwn.calls(k:Nat)(A0:Option Addr)(c0:Nat)(l0:List (List Bool))(a1:Int)(A2:Option Addr)(c2:Nat)(l2:List (List S59))(r:Bool)(w:World)(hr0:Kd.C (Kd.slice 4 Kd.bool) w A0 l0.length l0)(hc0:l0.length≤c0)(hr2:Kd.C (Kd.slice 59 k59) w A2 l2.length l2)(hc2:l2.length≤c2)(h:fluxionlaw19_SparseOwn.f k l0 a1 l2=some r):
  Calls Tryz.prog 5 #[.slice A0 l0.length c0,.int .u8 a1,.slice A2 l2.length c2] w fun e w'=>e= .returned (.bool r)∧Below w.heap.size w w':=by
 have HR0:=Aside0.mk (And.intro hr0 hc0);have HR2:=Aside0.mk (And.intro hr2 hc2);have HBw:=Aside0.mk (Below.refl w.heap.size w);clear hr0 hc0 hr2 hc2;unfold fluxionlaw19_SparseOwn.f at h;replace h:=bO h;obtain⟨p,A1,h⟩:=h;replace h:=bO h;obtain⟨kp,A2',h⟩:=h;replace h:=bO h;obtain⟨m,A3,h⟩:=h;replace h:=bO h;obtain⟨od,A4,h⟩:=h;replace h:=bO h;obtain⟨⟨c,ce⟩,A5,h⟩:=h;replace h:=bO h;obtain⟨⟨few,fe⟩,A6,h⟩:=h;replace h:=bO h;obtain⟨⟨bk,be⟩,A7,h⟩:=h;obtain⟨hcond,h⟩:=iN h;obtain rfl:=Option.some.inj h;obtain⟨e1,e2,e3,hl,s1,s2,s3,hal⟩:=hcond;dsimp only at e1 e2 e3 hl s1 s2 s3 A6 A7
 subst e1 e2 e3;have HL:=Aside0.mk hl;have T1:=Aside0.mk s1;have T2:=Aside0.mk s2;have T3:=Aside0.mk s3;have T4:=Aside0.mk hal;clear h hl s1 s2 s3 hal;go_enter Tryz.func5,Tryz.ntmps5
 go_upto_region 9 with (first
  | ((with_reducible refine gF 25 ?_);refine gl_ (some 29) Tryz.func25 #[.slice A0 l0.length c0,.int .i64 (wrap64 (Int.tmod a1 10))] ?_;(with_reducible refine(fluxionlaw19_fit.calls k _ _ l0 (wrap64 (Int.tmod a1 10)) p _ HR0.out.1 HR0.out.2 A1.out).mono ?_);rintro e w1 ⟨v_,rfl,ho,hb⟩;refine⟨_,rfl,?_⟩;replace HR2:=Aside0.mk (And.intro (Kd.C_below HR2.out.1 hb) HR2.out.2);replace HBw:=Aside0.mk (below_step HBw.out hb);obtain⟨X1,d1,e_,g_,q_⟩:=Kd.S_reads ho;subst e_;have HP:=Aside0.mk (And.intro q_ g_);clear ho hb q_ g_)
  | ((with_reducible refine gF 26 ?_);refine gl_ (some 31) Tryz.func26 #[.slice X1 p.length d1,.int .i64 100,.int .i64 100] ?_;(with_reducible refine(fluxionref19_Cut.calls k _ _ p 100 100 kp _ HP.out.1 HP.out.2 A2'.out).mono ?_);rintro e w2 ⟨v_,rfl,ho,hb⟩;refine⟨_,rfl,?_⟩;replace HR2:=Aside0.mk (And.intro (Kd.C_below HR2.out.1 hb) HR2.out.2);replace HP:=Aside0.mk (And.intro (Kd.C_below HP.out.1 hb) HP.out.2);replace HBw:=Aside0.mk (below_step HBw.out hb);obtain⟨X2,d2,e_,g_,q_⟩:=Kd.S_reads ho;subst e_;have HK:=Aside0.mk (And.intro q_ g_);clear ho hb q_ g_)
  | ((with_reducible refine gF 27 ?_);refine gl_ (some 34) Tryz.func27 #[.slice X1 p.length d1,.slice A2 l2.length c2] ?_;(with_reducible refine(fluxionlaw19_inside.calls k _ _ p _ _ l2 m _ HP.out.1 HP.out.2 HR2.out.1 HR2.out.2 A3.out).mono ?_);rintro e w3 ⟨v_,rfl,ho,hb⟩;refine⟨_,rfl,?_⟩;replace HR2:=Aside0.mk (And.intro (Kd.C_below HR2.out.1 hb) HR2.out.2);replace HP:=Aside0.mk (And.intro (Kd.C_below HP.out.1 hb) HP.out.2);replace HK:=Aside0.mk (And.intro (Kd.C_below HK.out.1 hb) HK.out.2);replace HBw:=Aside0.mk (below_step HBw.out hb);obtain⟨X3,d3,e_,g_,q_⟩:=Kd.R_reads ho;subst e_;have HM:=Aside0.mk (And.intro q_ g_);clear ho hb q_ g_)
  | ((with_reducible refine gF 9 ?_);refine gl_ (some 36) Tryz.func9 #[.slice X3 m.length d3,.int .i64 100,.int .i64 100] ?_;(with_reducible refine(fluxionref14_CutMatrix.calls k _ _ m 100 100 od _ HM.out.1 HM.out.2 A4.out).mono ?_);rintro e w4 ⟨v_,rfl,ho,hb⟩;refine⟨_,rfl,?_⟩;replace HR2:=Aside0.mk (And.intro (Kd.C_below HR2.out.1 hb) HR2.out.2);replace HP:=Aside0.mk (And.intro (Kd.C_below HP.out.1 hb) HP.out.2);replace HK:=Aside0.mk (And.intro (Kd.C_below HK.out.1 hb) HK.out.2);replace HM:=Aside0.mk (And.intro (Kd.C_below HM.out.1 hb) HM.out.2);replace HBw:=Aside0.mk (below_step HBw.out hb);obtain⟨X4,d4,e_,g_,q_⟩:=Kd.R_reads ho;subst e_;have HO:=Aside0.mk (And.intro q_ g_);clear ho hb q_ g_)
  | ((with_reducible refine gF 28 ?_);refine gl_ (some 40) Tryz.func28 #[.slice X1 p.length d1,.int .i64 (wrap64 (Int.tmod a1 10))] ?_;(with_reducible refine(sparse_Colours.calls _ _ p (wrap64 (Int.tmod a1 10)) c 0 _ HP.out.1 HP.out.2 A5.out).mono ?_);rintro e w5 ⟨v_,rfl,ho,hb⟩;refine⟨_,rfl,?_⟩;replace HR2:=Aside0.mk (And.intro (Kd.C_below HR2.out.1 hb) HR2.out.2);replace HP:=Aside0.mk (And.intro (Kd.C_below HP.out.1 hb) HP.out.2);replace HK:=Aside0.mk (And.intro (Kd.C_below HK.out.1 hb) HK.out.2);replace HM:=Aside0.mk (And.intro (Kd.C_below HM.out.1 hb) HM.out.2);replace HO:=Aside0.mk (And.intro (Kd.C_below HO.out.1 hb) HO.out.2);replace HBw:=Aside0.mk (below_step HBw.out hb);obtain⟨X5,d5,e_,g_,q_⟩:=Kd.R_reads ho;subst e_;have HC:=Aside0.mk (And.intro q_ g_);clear ho hb q_ g_))
 clear A1 A2' A3 A4 A5;go_upto_region 12 with (first
  | ((with_reducible refine gD 45 ?_);refine li_ (Kd.int .i64) 3 45 ([] :List Int) [] (Reps.none _ _) ?_;intro v6 w6 ho hb hg_ hn_;have HL6:=Aside0.mk ho;have HB6:=Aside0.mk hb;clear ho hb hg_ hn_)
  | ((with_reducible refine gate_builtin (b:= .append) (xs:= #[.tmp 45,.tmp 46]) rfl ?_);at_builtin;refine Kd.R_append_rows (Kd.int .i64) (w0:=w5) w5.heap.size rfl (.tmp 45) (.tmp 46) 23 3 (.int .i64 0) 8 rfl Tryz.underlying23 info3 rfl (by decide) (by omega) v6 [] c X5 c.length d5 (fun _=>True) (fun _=>False) rfl rfl HL6.out (Kd.C_below HC.out.1 HB6.out) (fun _ _ h=>h) (fun _ h=>h.elim) (fun _ _=>trivial) HB6.out (below_size HB6.out) (by have:=HL.out;simp only[List.length_nil];omega) ?_;intro v7 w7 ho hb hg hat;replace HR2:=Aside0.mk (And.intro (Kd.C_below HR2.out.1 hb) HR2.out.2);replace HP:=Aside0.mk (And.intro (Kd.C_below HP.out.1 hb) HP.out.2);replace HK:=Aside0.mk (And.intro (Kd.C_below HK.out.1 hb) HK.out.2);replace HM:=Aside0.mk (And.intro (Kd.C_below HM.out.1 hb) HM.out.2);replace HO:=Aside0.mk (And.intro (Kd.C_below HO.out.1 hb) HO.out.2);replace HC:=Aside0.mk (And.intro (Kd.C_below HC.out.1 hb) HC.out.2);replace HBw:=Aside0.mk (below_step HBw.out hb);rw[List.nil_append]at ho;obtain⟨X6,d6,e_,g_,q_⟩:=Kd.R_reads ho;subst e_;have HS:=Aside0.mk (And.intro q_ g_);clear HL6 HB6 ho hb hg hat q_ g_)
  | ((with_reducible refine gF 21 ?_);have HP7:=HP;have HK7:=HK;have HM7:=HM;have HO7:=HO;have HBw7:=HBw;refine gl_ (some 51) Tryz.func21 #[.slice X3 m.length d3,.slice X5 c.length d5] ?_;(with_reducible refine(sparse_Squeeze.calls k _ _ m _ _ c few 0 _ HM.out.1 HM.out.2 HC.out.1 HC.out.2 A6.out).mono ?_);rintro e w8 ⟨v_,rfl,ho,hb⟩;refine⟨_,rfl,?_⟩;replace HR2:=Aside0.mk (And.intro (Kd.C_below HR2.out.1 hb) HR2.out.2);replace HP:=Aside0.mk (And.intro (Kd.C_below HP.out.1 hb) HP.out.2);replace HK:=Aside0.mk (And.intro (Kd.C_below HK.out.1 hb) HK.out.2);replace HM:=Aside0.mk (And.intro (Kd.C_below HM.out.1 hb) HM.out.2);replace HO:=Aside0.mk (And.intro (Kd.C_below HO.out.1 hb) HO.out.2);replace HC:=Aside0.mk (And.intro (Kd.C_below HC.out.1 hb) HC.out.2);replace HS:=Aside0.mk (And.intro (Kd.C_below HS.out.1 hb) HS.out.2);replace HBw:=Aside0.mk (below_step HBw.out hb);obtain⟨X7,d7,e_⟩:=Kd.N_slice ho;subst e_;have HF:=Aside0.mk (Kd.N_bound ho);have HBF:=Aside0.mk hb;have HB78:=Aside0.mk (below_size hb);clear ho hb)
  | ((with_reducible refine gF 10 ?_);refine gl_ (some 58) Tryz.func10 #[.slice X1 p.length d1,.slice X5 c.length d5,.slice X7 few.length d7] ?_;(with_reducible refine(sparse_Spread.calls k _ _ p _ _ c _ _ few bk 0 _ HP.out.1 HP.out.2 HC.out.1 HC.out.2 (Kd.N_reads' HF.out).2.2 (Kd.N_reads' HF.out).2.1 A7.out).mono ?_);rintro e w9 ⟨v_,rfl,ho,hb⟩;refine⟨_,rfl,?_⟩;replace HR2:=Aside0.mk (And.intro (Kd.C_below HR2.out.1 hb) HR2.out.2);replace HP:=Aside0.mk (And.intro (Kd.C_below HP.out.1 hb) HP.out.2);replace HK:=Aside0.mk (And.intro (Kd.C_below HK.out.1 hb) HK.out.2);replace HM:=Aside0.mk (And.intro (Kd.C_below HM.out.1 hb) HM.out.2);replace HO:=Aside0.mk (And.intro (Kd.C_below HO.out.1 hb) HO.out.2);replace HC:=Aside0.mk (And.intro (Kd.C_below HC.out.1 hb) HC.out.2);replace HS:=Aside0.mk (And.intro (Kd.C_below HS.out.1 hb) HS.out.2);replace HBw:=Aside0.mk (below_step HBw.out hb);obtain⟨X8,d8,e_⟩:=Kd.N_slice ho;subst e_;have HG:=Aside0.mk (Kd.N_bound ho);replace HF:=Aside0.mk (Kd.N_below HF.out hb);replace HBF:=Aside0.mk (below_step HBF.out hb);have HBG:=Aside0.mk hb;clear ho hb))
 clear A6 A7;go_upto_region 14 with (first
  | (go_at_call 29;(with_reducible refine(fluxionref19_Same.calls k _ _ p _ _ kp true _ HP.out.1 HP.out.2 HK.out.1 HK.out.2 T1.out).mono ?_);rintro e w10 ⟨rfl,hb⟩;replace hb:=Drawn0.below hb;replace HR2:=Aside0.mk (And.intro (Kd.C_below HR2.out.1 hb) HR2.out.2);replace HP:=Aside0.mk (And.intro (Kd.C_below HP.out.1 hb) HP.out.2);replace HK:=Aside0.mk (And.intro (Kd.C_below HK.out.1 hb) HK.out.2);replace HM:=Aside0.mk (And.intro (Kd.C_below HM.out.1 hb) HM.out.2);replace HO:=Aside0.mk (And.intro (Kd.C_below HO.out.1 hb) HO.out.2);replace HC:=Aside0.mk (And.intro (Kd.C_below HC.out.1 hb) HC.out.2);replace HS:=Aside0.mk (And.intro (Kd.C_below HS.out.1 hb) HS.out.2);replace HF:=Aside0.mk (Kd.N_below HF.out hb);replace HG:=Aside0.mk (Kd.N_below HG.out hb);replace HBF:=Aside0.mk (below_step HBF.out hb);replace HBG:=Aside0.mk (below_step HBG.out hb);replace HBw:=Aside0.mk (below_step HBw.out hb);clear hb)
  | (go_at_call 19;(with_reducible refine(fluxionref14_Same.calls k _ _ m _ _ od true _ HM.out.1 HM.out.2 HO.out.1 HO.out.2 T2.out).mono ?_);rintro e w11 ⟨rfl,hb⟩;replace HR2:=Aside0.mk (And.intro (Kd.C_below HR2.out.1 hb) HR2.out.2);replace HP:=Aside0.mk (And.intro (Kd.C_below HP.out.1 hb) HP.out.2);replace HK:=Aside0.mk (And.intro (Kd.C_below HK.out.1 hb) HK.out.2);replace HM:=Aside0.mk (And.intro (Kd.C_below HM.out.1 hb) HM.out.2);replace HO:=Aside0.mk (And.intro (Kd.C_below HO.out.1 hb) HO.out.2);replace HC:=Aside0.mk (And.intro (Kd.C_below HC.out.1 hb) HC.out.2);replace HS:=Aside0.mk (And.intro (Kd.C_below HS.out.1 hb) HS.out.2);replace HF:=Aside0.mk (Kd.N_below HF.out hb);replace HG:=Aside0.mk (Kd.N_below HG.out hb);replace HBF:=Aside0.mk (below_step HBF.out hb);replace HBG:=Aside0.mk (below_step HBG.out hb);replace HBw:=Aside0.mk (below_step HBw.out hb);clear hb)
  | (go_at_call 30;(with_reducible refine(fluxionref08_Ints.calls k _ _ c _ _ c true _ HC.out.1 HC.out.2 HS.out.1 HS.out.2 T3.out).mono ?_);rintro e w12 ⟨rfl,hb⟩;replace hb:=Drawn0.below hb;replace HR2:=Aside0.mk (And.intro (Kd.C_below HR2.out.1 hb) HR2.out.2);replace HP:=Aside0.mk (And.intro (Kd.C_below HP.out.1 hb) HP.out.2);replace HK:=Aside0.mk (And.intro (Kd.C_below HK.out.1 hb) HK.out.2);replace HM:=Aside0.mk (And.intro (Kd.C_below HM.out.1 hb) HM.out.2);replace HO:=Aside0.mk (And.intro (Kd.C_below HO.out.1 hb) HO.out.2);replace HC:=Aside0.mk (And.intro (Kd.C_below HC.out.1 hb) HC.out.2);replace HS:=Aside0.mk (And.intro (Kd.C_below HS.out.1 hb) HS.out.2);replace HF:=Aside0.mk (Kd.N_below HF.out hb);replace HG:=Aside0.mk (Kd.N_below HG.out hb);replace HBF:=Aside0.mk (below_step HBF.out hb);replace HBG:=Aside0.mk (below_step HBG.out hb);replace HBw:=Aside0.mk (below_step HBw.out hb);clear hb))
 clear T3 HC HS HR2 HR0;go_upto_block 0 with fail
 obtain⟨S,hSg,hA⟩:=all_mk HF.out HG.out HB78.out;have hB0:=below_alloc HBF.out (.cells #[.slice X7 few.length d7,.slice X8 bk.length d8] 24);clear HF HG HBF HBG HBw HB78 HP HK HM HO;generalize World.alloc w12 (.cells #[.slice X7 few.length d7,.slice X8 bk.length d8] 24)=W0 at hA hB0 ⊢;obtain⟨adA,hAd⟩: ∃adA:Addr,adA=⟨w12.heap.size,0,none⟩:=⟨_,rfl⟩;rw[←hAd]at hA;rw[←hAd];have hSA:S adA.block:=by rw[hAd];exact hSg
 have HA:=Aside0.mk hA;have HSA:=Aside0.mk hSA;have HB0:=Aside0.mk hB0;clear hAd hSg hA hSA hB0;go_wp2
 go_loopg [20] 2 (fun gg v20 wr=> ∃i:Nat,i≤2∧2 - i≤gg∧v20= .int .i64 i∧Aside0 (Turn S W0 wr)∧Aside0 (Below w7.heap.size w7 wr))
 case atStart=>exact⟨0,Nat.zero_le _,by omega,rfl,⟨Turn.refl _ _⟩,HB0⟩
 case round=>
 clear HB0;obtain⟨i,hi,hgi,rfl,HT,HB⟩:=hrel;by_cases hit:i< 2
 ·have hitz:(i:Int)< 2:=by omega
  obtain⟨v,hLv,Ai,ni,ci,rfl,hni,hrows⟩:=HA.out i hit;have HLv:=Aside0.mk hLv;have HRows:=Aside0.mk hrows;clear hLv hrows;have HX1:Aside0 (∀ {W:World},Turn S W0 W→W.cell? (adA.add i)=some (.slice Ai ni ci)):=⟨fun h=>(Turn.same h HLv.out (by rw[add_block];exact HSA.out)).1⟩;clear HLv;go_wp2
  go_loopg [21] ni (fun gg v21 wr=> ∃j:Nat,j≤ni∧ni - j≤gg∧v21= .int .i64 j∧Aside0 (Turn S W0 wr)∧Aside0 (Below w7.heap.size w7 wr))
  case atStart=>exact⟨0,Nat.zero_le _,by omega,rfl,HT,HB⟩
  case round=>
  clear HT HB;obtain⟨j,hj,hgj,rfl,HT,HB⟩:=hrel;have x1:=HX1.out HT.out;by_cases hjt:j< ni
  ·have hjtz:(j:Int)< (ni:Int):=by omega
   obtain⟨adk,u,ek,hSk,hLk,Ak,nk,ck,rfl,hnk,hels⟩:=HRows.out j hjt;subst ek;have HEls:=Aside0.mk hels;have HX2:Aside0 (∀ {W:World},Turn S W0 W→W.cell? (adk.add j)=some (.slice Ak nk ck)):=⟨fun h=>(Turn.same h hLk (by rw[add_block];exact hSk)).1⟩;clear hLk hSk hels;go_wp2
   go_loopg [22] nk (fun gg v22 wr=> ∃x:Nat,x≤nk∧nk - x≤gg∧v22= .int .i64 x∧Aside0 (Turn S W0 wr)∧Aside0 (Below w7.heap.size w7 wr))
   case atStart=>exact⟨0,Nat.zero_le _,by omega,rfl,HT,HB⟩
   case round=>
   clear HT HB x1;obtain⟨x,hx,hgx,rfl,HT,HB⟩:=hrel;have x1:=HX1.out HT.out;have x2:=HX2.out HT.out;by_cases hxt:x< nk
   ·have hxtz:(x:Int)< (nk:Int):=by omega
    obtain⟨adx,ex,hBx,hSx,hRat⟩:=HEls.out x hxt;subst ex;obtain⟨f,b,A3,n3,c3,A4,n4,c4,l0_,l1_,l2_,l3_,A3',n3',c3',e3',hn3,hys⟩:=Turn.rat HT.out hRat;injection e3' with e4 e5 e6
    subst e4 e5 e6;have HRat:=Aside0.mk hRat;have HYs:=Aside0.mk hys;have HSx:=Aside0.mk (And.intro hBx hSx);have HHd:=Aside0.mk l2_;clear hRat hys hBx hSx l0_ l1_ l2_ l3_;go_wp2
    go_loopg [23] n3 (fun gg v23 wr=> ∃y:Nat,y≤n3∧n3 - y≤gg∧v23= .int .i64 y∧Aside0 (Turn S W0 wr)∧Aside0 (Below w7.heap.size w7 wr)∧Aside0 (Lies wr ⟨(adx.add (x * 4)).block,(adx.add (x * 4)).off+2,none⟩ (.slice A3 n3 c3)))
    case atStart=>exact⟨0,Nat.zero_le _,by omega,rfl,HT,HB,HHd⟩
    case round=>
    clear HT HB HHd x1 x2;obtain⟨y,hy,hgy,rfl,HT,HB,HHd⟩:=hrel;have x1:=HX1.out HT.out;have x2:=HX2.out HT.out;have x3:=HHd.out.1;by_cases hyt:y< n3
    ·have hytz:(y:Int)< (n3:Int):=by omega
     obtain⟨ady,d,ey,hBy,hSy,hLy⟩:=HYs.out y hyt;subst ey;obtain⟨u',hu1,hu2,_⟩:=HT.out _ _ hLy;obtain⟨d',rfl⟩:=like_of_u32 hu2;have HLy:=Aside0.mk hu1;have HSy:=Aside0.mk (And.intro hBy hSy);have x4:=hu1.1;clear hLy hu2 hu1 hBy hSy;obtain⟨wr_,hwr_⟩: ∃wr_:World,wr_=wr:=⟨_,rfl⟩;subst hwr_;go_wp2_with fail
     have q1:=eq_true hit;refine start_ (n:=29) (S:=fun w'=>w'.cell? (adA.add i)=some (.slice (some adk) ni ci)∧w'.cell? (adk.add j)=some (.slice (some adx) nk ck)∧w'.cell? ⟨(adx.add (x * 4)).block,(adx.add (x * 4)).off+2,none⟩=some (.slice (some ady) n3 c3)∧w'.cell? (ady.add y)=some (.int .u32 d')) (ds:= [28]) (M_ 29 0) (by kernel_rfl) rfl (by kernel_rfl) ⟨x1,x2,x3,x4⟩ (fun hHeld=>?_);have HTd:=Aside0.mk (Turn.drew HT.out);have HBd:=Aside0.mk HB.out.drew;have HHdd:Aside0 (Lies (World.drew wr_) ⟨(adx.add (x * 4)).block,(adx.add (x * 4)).off+2,none⟩ (.slice (some ady) n3 c3)):=⟨HHd.out⟩;have HLyd:Aside0 (Lies (World.drew wr_) (ady.add y) (.int .u32 d')):=⟨HLy.out⟩;clear HT HB HHd HLy x1 x2 x3 x4;generalize World.drew wr_=wd at hHeld HTd HBd HHdd HLyd ⊢;refine pu_ 0 (some 131) (M_ 29 1) ?_;refine pu_ 1 (some 132) (M_ 29 3) ?_;refine pu_ 2 (some 133) (M_ 29 7) ?_;refine pu_ 4 (some 135) (M_ 29 23) ?_;refine pu_ 7 (some 138) (M_ 29 151) ?_;refine pu_ 11 (some 142) (M_ 29 2199) ?_;refine pu_ 12 (some 143) (M_ 29 6295) ?_;refine pu_ 13 (some 144) (M_ 29 14487) ?_;refine pu_ 14 (some 145) (M_ 29 30871) ?_;refine pu_ 16 (some 147) (M_ 29 96407) ?_;refine pu_ 19 (some 150) (M_ 29 620695) ?_;refine pu_ 23 (some 154) (M_ 29 9009303) ?_;refine ta_ 3 (some 134) (M_ 29 9009311) hHeld ?_;refine pu_ 5 (some 136) (M_ 29 9009343) ?_;refine ta_ 6 (some 137) (M_ 29 9009407) hHeld ?_;refine pu_ 8 (some 139) (M_ 29 9009663) ?_;refine pu_ 9 (some 140) (M_ 29 9010175) ?_;refine ta_ 10 (some 141) (M_ 29 9011199) hHeld ?_;refine ta_ 15 (some 146) (M_ 29 9043967) hHeld ?_;refine pu_ 17 (some 148) (M_ 29 9175039) ?_;refine ta_ 18 (some 149) (M_ 29 9437183) hHeld ?_;refine pu_ 20 (some 151) (M_ 29 10485759) ?_;refine pu_ 21 (some 152) (M_ 29 12582911) ?_;refine ta_ 22 (some 153) (M_ 29 16777215) hHeld ?_;refine pu_ 24 (some 155) (M_ 29 33554431) ?_;refine ta_ 25 (some 156) (M_ 29 67108863) hHeld ?_;refine pu_ 26 (some 157) (M_ 29 134217727) ?_;refine pu_ 27 (some 158) (M_ 29 268435455) ?_;refine last_ (i:=28) (N:=none) (M_ 29 536870911) rfl rfl (by kernel_rfl) (by decide) (fun K hK=>?_);have x4:=HLyd.out.1;have z4:=HLyd.out.2;refine skip_ (w1:=?_) (by rfl) rfl ?_ ?_;rotate_left
     ·go_simp;rfl
     refine hK.out _ _ ?_;clear hK K x4 z4;refine done_ (by kernel_rfl) ?_;go_wp2_with fail
     go_roundg (n3 - (y+1))
     case measure=>omega
     case rel=>exact⟨y+1,by omega,by omega,by go_num,⟨Turn.set_ HTd.out (by rw[add_block];exact HSy.out.2) HLyd.out (fun _=>like_u32)⟩,⟨Below.setCell HBd.out (p:=ady.add y) (by rw[add_block];exact HSy.out.1) _⟩,⟨lies_ne HHdd.out (fun e_=>by have h_:=HHdd.out.1;rw[e_,HLyd.out.1]at h_;cases h_)⟩⟩
    ·have hytz: ¬ (y:Int)< (n3:Int):=by omega
     obtain⟨f2,b2,A5,n5,c5,A6,n6,c6,l0_,l1_,l2_,l3_,_⟩:=Turn.rat HT.out HRat.out;have L0:=Aside0.mk l0_;have L1:=Aside0.mk l1_;have L2:=Aside0.mk l2_;have L3:=Aside0.mk l3_;clear l0_ l1_ l2_ l3_;go_upto_region 28 with fail
     obtain⟨g0,z0⟩:=L0.out;obtain⟨g1,z1⟩:=L1.out;obtain⟨g2,z2⟩:=L2.out;obtain⟨g3,z3⟩:=L3.out;obtain⟨⟨m1,v1_⟩,⟨m2,v2_⟩,⟨m3,v3_⟩⟩:=zero_lies L1.out L2.out L3.out;clear x3;go_upto_region 23 with fail
     go_wp2_with fail
     go_roundg (nk - (x+1))
     case measure=>omega
     case rel=>exact⟨x+1,by omega,by omega,by go_num,⟨Turn.zero HT.out (by rw[add_block];exact HSx.out.2) L0.out L1.out L2.out L3.out⟩,⟨below_zero HB.out (by rw[add_block];exact HSx.out.1) _ _ _ _⟩⟩
   ·have hxtz: ¬ (x:Int)< (nk:Int):=by omega
    go_wp2
    go_roundg (ni - (j+1))
    case measure=>omega
    case rel=>exact⟨j+1,by omega,by omega,by go_num,HT,HB⟩
  ·have hjtz: ¬ (j:Int)< (ni:Int):=by omega
   go_wp2
   go_roundg (2 - (i+1))
   case measure=>omega
   case rel=>exact⟨i+1,by omega,by omega,by go_num,HT,HB⟩
 ·have hitz: ¬ (i:Int)< 2:=by omega
  go_wp2_with (first
   | (go_at_call 29;(with_reducible refine(fluxionref19_Same.calls k _ _ p _ _ kp true _ (Kd.C_below HP7.out.1 HB.out) HP7.out.2 (Kd.C_below HK7.out.1 HB.out) HK7.out.2 T1.out).mono ?_);rintro e w20 ⟨rfl,hb⟩;replace hb:=Drawn0.below hb;replace HB:=Aside0.mk (below_step HB.out hb);clear hb)
   | (go_at_call 19;(with_reducible refine(fluxionref14_Same.calls k _ _ m _ _ od true _ (Kd.C_below HM7.out.1 HB.out) HM7.out.2 (Kd.C_below HO7.out.1 HB.out) HO7.out.2 T2.out).mono ?_);rintro e w21 ⟨rfl,hb⟩;replace HB:=Aside0.mk (below_step HB.out hb);clear hb)
   | (go_at_call 17;(with_reducible refine(fluxionlaw19_alive.calls true _ T4.out).mono ?_);rintro e w22 ⟨rfl,hb⟩;replace HB:=Aside0.mk (below_step HB.out hb);clear hb))
  go_ret;exact⟨eQ,below_step HBw7.out HB.out⟩
end Go.Proofs.YtjjbondlcjnaiaaGreat.PSparseOwn
