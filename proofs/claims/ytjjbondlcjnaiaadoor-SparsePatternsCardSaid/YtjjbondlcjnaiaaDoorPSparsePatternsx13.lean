-- written by a program of this session, after the kit's print
import Derived.Test.YtjjbondlcjnaiaaDoorPSparsePatternsx12
namespace Go.Proofs.YtjjbondlcjnaiaaDoor.PSparsePatterns
open Go.RowKit Go.Proofs.YtjjbondlcjnaiaaDoorW.PrintWords Go.Proofs.YtjjbondlcjnaiaaDoorW.PrintLast Go.Proofs.YtjjbondlcjnaiaaDoorW.PrintMore
set_option maxHeartbeats 8000000
set_option maxRecDepth 100000
attribute [local go_sem] max2_int min2_int max_two min_two max_three min_three max_four min_four
set_option linter.unusedVariables false
set_option linter.unusedSimpArgs false
def fluxionref11_form.j0:Nat→Bool→Bool→Bool→Int→Int→Int→Int→Bool→List Int→List Int→Option (Bool)
 |0,_,_,_,_,_,_,_,_,_,_=>none
 |k+1,x1,x5,x35,x335000,x335001,x335002,x335003,x335004,x335005,x335006=>if x35=true then(some false)else(if x335000=2 then(if x335003=0 then((fluxionref02_IsRat.f k x335003 x335004 x335005 x335006).bind fun t337=>(some t337))else(some false))else(if x1=true then((fluxionref02_Equal.f k x335003 x335004 x335005 x335006 0 false ([] :List Int) ([] :List Int)).bind fun t338=>(some t338))else(if x5=true then((fluxionref02_Equal.f k x335003 x335004 x335005 x335006 0 false ([] :List Int) ([] :List Int)).bind fun t339=>(some t339))else(some false))))
def fluxionref11_form.f(k:Nat)(a0_0:Int)(a0_1:Int)(a0_2:Int)(a0_3:Int)(a0_4:Bool)(l0_5:List Int)(l0_6:List Int)(a1:Bool):Option (Bool):=(fluxionref11_Has.f a0_0).bind fun bt335=>(if(a1 !=(a0_0==1))=true then(fluxionref11_form.j0 k a1 bt335.1 true a0_0 a0_1 a0_2 a0_3 a0_4 l0_5 l0_6)else(if bt335.1=true then(if bt335.2=true then(fluxionref11_form.j0 k a1 bt335.1 false a0_0 a0_1 a0_2 a0_3 a0_4 l0_5 l0_6)else(fluxionref11_form.j0 k a1 bt335.1 (a0_2 !=0) a0_0 a0_1 a0_2 a0_3 a0_4 l0_5 l0_6))else(if a0_1=0 then(if bt335.2=true then(fluxionref11_form.j0 k a1 bt335.1 false a0_0 a0_1 a0_2 a0_3 a0_4 l0_5 l0_6)else(fluxionref11_form.j0 k a1 bt335.1 (a0_2 !=0) a0_0 a0_1 a0_2 a0_3 a0_4 l0_5 l0_6))else(fluxionref11_form.j0 k a1 bt335.1 true a0_0 a0_1 a0_2 a0_3 a0_4 l0_5 l0_6))))
theorem fluxionref11_form.calls(k:Nat)(a0_0:Int)(a0_1:Int)(a0_2:Int)(a0_3:Int)(a0_4:Bool)(A0_5:Option Addr)(c0_5:Nat)(l0_5:List Int)(A0_6:Option Addr)(c0_6:Nat)(l0_6:List Int)(a1:Bool)(r:Bool)(w:World)(hr0_5:Kd.C (Kd.int .u32) w A0_5 l0_5.length l0_5)(hc0_5:l0_5.length≤c0_5)(hr0_6:Kd.C (Kd.int .u32) w A0_6 l0_6.length l0_6)(hc0_6:l0_6.length≤c0_6)(h:fluxionref11_form.f k a0_0 a0_1 a0_2 a0_3 a0_4 l0_5 l0_6 a1=some r):
  Calls Tryd.prog 15 #[.agg #[.int .i64 a0_0,.int .i64 a0_1,.int .i64 a0_2,.int .i64 a0_3,.bool a0_4,.slice A0_5 l0_5.length c0_5,.slice A0_6 l0_6.length c0_6],.bool a1] w fun e w'=>e= .returned (.bool r)∧Below w.heap.size w w':=by
 have hu44:=Tryd.underlying44;have hu42:=Tryd.underlying42;have HR0_5:=Aside0.mk hr0_5;have HC0_5:=Aside0.mk hc0_5;clear hr0_5 hc0_5;have HR0_6:=Aside0.mk hr0_6;have HC0_6:=Aside0.mk hc0_6;clear hr0_6 hc0_6;have HB:=Aside0.mk (Below.refl w.heap.size w);have H:=h;clear h;unfold fluxionref11_form.f at H;obtain⟨⟨t335,t336⟩,A3,H⟩:=bO H;(try dsimp only at H);have HC4:=Aside0.mk H;clear H;go_enter Tryd.func15,Tryd.ntmps15
 go_upto_region 2 with (first| (refine gD 2 ?_;refine bx_ 2 #[.int .i64 a0_0,.int .i64 a0_1,.int .i64 a0_2,.int .i64 a0_3,.bool a0_4,.slice A0_5 l0_5.length c0_5,.slice A0_6 l0_6.length c0_6] 44 ?_;intro gb334 hg w5 hbox hb;have BK334:=Aside0.mk hbox;have GW334:=Aside0.mk (gQ w hg);have GE334:=Aside0.mk (gQ w hg);replace HB:=hsQ hb;clear hb hbox hg;have hcz6_0:w5.cell? ⟨gb334,0,none⟩=some (.int .i64 a0_0):=bC BK334.out 0;have hcz6_1:w5.cell? ⟨gb334,1,none⟩=some (.int .i64 a0_1):=bC BK334.out 1;have hcz6_2:w5.cell? ⟨gb334,2,none⟩=some (.int .i64 a0_2):=bC BK334.out 2;have hcz6_3:w5.cell? ⟨gb334,3,none⟩=some (.int .i64 a0_3):=bC BK334.out 3;have hcz6_4:w5.cell? ⟨gb334,4,none⟩=some (.bool a0_4):=bC BK334.out 4;have hcz6_5:w5.cell? ⟨gb334,5,none⟩=some (.slice A0_5 l0_5.length c0_5):=bC BK334.out 5;have hcz6_6:w5.cell? ⟨gb334,6,none⟩=some (.slice A0_6 l0_6.length c0_6):=bC BK334.out 6;have hfz6_0:=blk_frozen BK334.out 0;have hfz6_1:=blk_frozen BK334.out 1;have hfz6_2:=blk_frozen BK334.out 2;have hfz6_3:=blk_frozen BK334.out 3;have hfz6_4:=blk_frozen BK334.out 4;have hfz6_5:=blk_frozen BK334.out 5;have hfz6_6:=blk_frozen BK334.out 6) | (refine gF 16 ?_;refine gl_ (some 10) Tryd.func16 #[.int .i64 a0_0] ?_;(with_reducible refine(fluxionref11_Has.calls a0_0 t335 t336 _ A3.out).mono ?_);rintro e w' ⟨rfl,⟨nd,rfl⟩⟩;refine⟨_,rfl,?_⟩))
 (try simp only[Act.put,List.setIfInBounds_toArray,List.set_cons_zero,List.set_cons_succ]);go_cut [35] (fun v35 wc=> ∃ (kq:Nat) (x35_3:Bool),v35= .bool x35_3∧Aside0 (fluxionref11_form.j0 kq a1 t335 x35_3 a0_0 a0_1 a0_2 a0_3 a0_4 l0_5 l0_6=some r)∧Aside0 (kq≤k)∧Aside0 (wc.heap[gb334]? =some (.cells #[.int .i64 a0_0,.int .i64 a0_1,.int .i64 a0_2,.int .i64 a0_3,.bool a0_4,(.slice A0_5 l0_5.length c0_5),(.slice A0_6 l0_6.length c0_6)] 44 (0,0)))∧Aside0 (Below w.heap.size w wc))
 case first=>
  have H:=HC4.out;clear HC4;by_cases c7:(a1 !=(a0_0==1))=true
  ·rw[if_pos c7]at H;have c7b0:(a1 !=(a0_0==1))=true:=c7;(try (have c7b1:decide (a1=(a0_0==1))=false:=by simpa using c7));(try (have c7b2:(a1==(a0_0==1))=false:=by simpa using c7));(try (have c7b3: ¬ (a1=(a0_0==1)):=by simpa using c7));clear c7;(first|rw[c7b0] | (simp only[i64_w,i32_w];rw[c7b0]) |skip);have H':=Aside0.mk H;clear H;have hcz8_0:w5.cell? ⟨gb334,0,none⟩=some (.int .i64 a0_0):=bC BK334.out 0;have hcz8_1:w5.cell? ⟨gb334,1,none⟩=some (.int .i64 a0_1):=bC BK334.out 1;have hcz8_2:w5.cell? ⟨gb334,2,none⟩=some (.int .i64 a0_2):=bC BK334.out 2;have hcz8_3:w5.cell? ⟨gb334,3,none⟩=some (.int .i64 a0_3):=bC BK334.out 3;have hcz8_4:w5.cell? ⟨gb334,4,none⟩=some (.bool a0_4):=bC BK334.out 4;have hcz8_5:w5.cell? ⟨gb334,5,none⟩=some (.slice A0_5 l0_5.length c0_5):=bC BK334.out 5;have hcz8_6:w5.cell? ⟨gb334,6,none⟩=some (.slice A0_6 l0_6.length c0_6):=bC BK334.out 6;have hfz8_0:=blk_frozen BK334.out 0;have hfz8_1:=blk_frozen BK334.out 1;have hfz8_2:=blk_frozen BK334.out 2;have hfz8_3:=blk_frozen BK334.out 3;have hfz8_4:=blk_frozen BK334.out 4;have hfz8_5:=blk_frozen BK334.out 5;have hfz8_6:=blk_frozen BK334.out 6;go_wp2
   go_meet
   case rel=>exact⟨_,(true),eS,H',⟨by first|omega|exact Nat.le_refl _⟩,⟨by(with_reducible repeat(first|refine blk_drewN ?_ _|refine blk_drew ?_|refine blk_alloc ?_ _));exact BK334.out⟩,⟨by repeat(first| (with_reducible first|exact HB.out|apply below_alloc|apply pw_below_drewN|apply below_drew1|refine below_set ?_ GE334.out) |exact HB.out)⟩⟩
  ·rw[if_neg c7]at H;have c7b0:(a1 !=(a0_0==1))=false:=by simpa using c7
   (try (have c7b1:decide (a1=(a0_0==1))=true:=by simpa using c7));(try (have c7b2:(a1==(a0_0==1))=true:=by simpa using c7));clear c7;(first|rw[c7b0] | (simp only[i64_w,i32_w];rw[c7b0]) |skip);by_cases c9:t335=true
   ·subst c9;rw[if_pos rfl]at H;by_cases c10:t336=true
    ·subst c10;rw[if_pos rfl]at H;have H':=Aside0.mk H;clear H;have hcz11_0:w5.cell? ⟨gb334,0,none⟩=some (.int .i64 a0_0):=bC BK334.out 0;have hcz11_1:w5.cell? ⟨gb334,1,none⟩=some (.int .i64 a0_1):=bC BK334.out 1;have hcz11_2:w5.cell? ⟨gb334,2,none⟩=some (.int .i64 a0_2):=bC BK334.out 2;have hcz11_3:w5.cell? ⟨gb334,3,none⟩=some (.int .i64 a0_3):=bC BK334.out 3;have hcz11_4:w5.cell? ⟨gb334,4,none⟩=some (.bool a0_4):=bC BK334.out 4;have hcz11_5:w5.cell? ⟨gb334,5,none⟩=some (.slice A0_5 l0_5.length c0_5):=bC BK334.out 5;have hcz11_6:w5.cell? ⟨gb334,6,none⟩=some (.slice A0_6 l0_6.length c0_6):=bC BK334.out 6;have hfz11_0:=blk_frozen BK334.out 0;have hfz11_1:=blk_frozen BK334.out 1;have hfz11_2:=blk_frozen BK334.out 2;have hfz11_3:=blk_frozen BK334.out 3;have hfz11_4:=blk_frozen BK334.out 4;have hfz11_5:=blk_frozen BK334.out 5;have hfz11_6:=blk_frozen BK334.out 6;go_wp2
     go_meet
     case rel=>exact⟨_,(false),eS,H',⟨by first|omega|exact Nat.le_refl _⟩,⟨by(with_reducible repeat(first|refine blk_drewN ?_ _|refine blk_drew ?_|refine blk_alloc ?_ _));exact BK334.out⟩,⟨by repeat(first| (with_reducible first|exact HB.out|apply below_alloc|apply pw_below_drewN|apply below_drew1|refine below_set ?_ GE334.out) |exact HB.out)⟩⟩
    ·replace c10:=Bool.eq_false_iff.mpr c10;subst c10;rw[if_neg nF]at H;have H':=Aside0.mk H;clear H;have hcz12_0:w5.cell? ⟨gb334,0,none⟩=some (.int .i64 a0_0):=bC BK334.out 0;have hcz12_1:w5.cell? ⟨gb334,1,none⟩=some (.int .i64 a0_1):=bC BK334.out 1;have hcz12_2:w5.cell? ⟨gb334,2,none⟩=some (.int .i64 a0_2):=bC BK334.out 2;have hcz12_3:w5.cell? ⟨gb334,3,none⟩=some (.int .i64 a0_3):=bC BK334.out 3;have hcz12_4:w5.cell? ⟨gb334,4,none⟩=some (.bool a0_4):=bC BK334.out 4;have hcz12_5:w5.cell? ⟨gb334,5,none⟩=some (.slice A0_5 l0_5.length c0_5):=bC BK334.out 5;have hcz12_6:w5.cell? ⟨gb334,6,none⟩=some (.slice A0_6 l0_6.length c0_6):=bC BK334.out 6;have hfz12_0:=blk_frozen BK334.out 0;have hfz12_1:=blk_frozen BK334.out 1;have hfz12_2:=blk_frozen BK334.out 2;have hfz12_3:=blk_frozen BK334.out 3;have hfz12_4:=blk_frozen BK334.out 4;have hfz12_5:=blk_frozen BK334.out 5;have hfz12_6:=blk_frozen BK334.out 6;go_wp2
     go_meet
     case rel=>exact⟨_,((a0_2 !=0)),eS,H',⟨by first|omega|exact Nat.le_refl _⟩,⟨by(with_reducible repeat(first|refine blk_drewN ?_ _|refine blk_drew ?_|refine blk_alloc ?_ _));exact BK334.out⟩,⟨by repeat(first| (with_reducible first|exact HB.out|apply below_alloc|apply pw_below_drewN|apply below_drew1|refine below_set ?_ GE334.out) |exact HB.out)⟩⟩
   ·replace c9:=Bool.eq_false_iff.mpr c9;subst c9;rw[if_neg nF]at H;by_cases c13:a0_1=0
    ·rw[if_pos c13]at H;have c13b0:=beq_iff_eq.mpr c13;have c13b1:=bne_eq_false_iff_eq.mpr c13;clear c13;by_cases c14:t336=true
     ·subst c14;rw[if_pos rfl]at H;have H':=Aside0.mk H;clear H;have hcz15_0:w5.cell? ⟨gb334,0,none⟩=some (.int .i64 a0_0):=bC BK334.out 0;have hcz15_1:w5.cell? ⟨gb334,1,none⟩=some (.int .i64 a0_1):=bC BK334.out 1;have hcz15_2:w5.cell? ⟨gb334,2,none⟩=some (.int .i64 a0_2):=bC BK334.out 2;have hcz15_3:w5.cell? ⟨gb334,3,none⟩=some (.int .i64 a0_3):=bC BK334.out 3;have hcz15_4:w5.cell? ⟨gb334,4,none⟩=some (.bool a0_4):=bC BK334.out 4;have hcz15_5:w5.cell? ⟨gb334,5,none⟩=some (.slice A0_5 l0_5.length c0_5):=bC BK334.out 5;have hcz15_6:w5.cell? ⟨gb334,6,none⟩=some (.slice A0_6 l0_6.length c0_6):=bC BK334.out 6;have hfz15_0:=blk_frozen BK334.out 0;have hfz15_1:=blk_frozen BK334.out 1;have hfz15_2:=blk_frozen BK334.out 2;have hfz15_3:=blk_frozen BK334.out 3;have hfz15_4:=blk_frozen BK334.out 4;have hfz15_5:=blk_frozen BK334.out 5;have hfz15_6:=blk_frozen BK334.out 6;go_wp2
      go_meet
      case rel=>exact⟨_,(false),eS,H',⟨by first|omega|exact Nat.le_refl _⟩,⟨by(with_reducible repeat(first|refine blk_drewN ?_ _|refine blk_drew ?_|refine blk_alloc ?_ _));exact BK334.out⟩,⟨by repeat(first| (with_reducible first|exact HB.out|apply below_alloc|apply pw_below_drewN|apply below_drew1|refine below_set ?_ GE334.out) |exact HB.out)⟩⟩
     ·replace c14:=Bool.eq_false_iff.mpr c14;subst c14;rw[if_neg nF]at H;have H':=Aside0.mk H;clear H;have hcz16_0:w5.cell? ⟨gb334,0,none⟩=some (.int .i64 a0_0):=bC BK334.out 0;have hcz16_1:w5.cell? ⟨gb334,1,none⟩=some (.int .i64 a0_1):=bC BK334.out 1;have hcz16_2:w5.cell? ⟨gb334,2,none⟩=some (.int .i64 a0_2):=bC BK334.out 2;have hcz16_3:w5.cell? ⟨gb334,3,none⟩=some (.int .i64 a0_3):=bC BK334.out 3;have hcz16_4:w5.cell? ⟨gb334,4,none⟩=some (.bool a0_4):=bC BK334.out 4;have hcz16_5:w5.cell? ⟨gb334,5,none⟩=some (.slice A0_5 l0_5.length c0_5):=bC BK334.out 5;have hcz16_6:w5.cell? ⟨gb334,6,none⟩=some (.slice A0_6 l0_6.length c0_6):=bC BK334.out 6;have hfz16_0:=blk_frozen BK334.out 0;have hfz16_1:=blk_frozen BK334.out 1;have hfz16_2:=blk_frozen BK334.out 2;have hfz16_3:=blk_frozen BK334.out 3;have hfz16_4:=blk_frozen BK334.out 4;have hfz16_5:=blk_frozen BK334.out 5;have hfz16_6:=blk_frozen BK334.out 6;go_wp2
      go_meet
      case rel=>exact⟨_,((a0_2 !=0)),eS,H',⟨by first|omega|exact Nat.le_refl _⟩,⟨by(with_reducible repeat(first|refine blk_drewN ?_ _|refine blk_drew ?_|refine blk_alloc ?_ _));exact BK334.out⟩,⟨by repeat(first| (with_reducible first|exact HB.out|apply below_alloc|apply pw_below_drewN|apply below_drew1|refine below_set ?_ GE334.out) |exact HB.out)⟩⟩
    ·rw[if_neg c13]at H;have c13b0:=beq_eq_false_iff_ne.mpr c13;have c13b1:=bne_iff_ne.mpr c13;have H':=Aside0.mk H;clear H;have hcz17_0:w5.cell? ⟨gb334,0,none⟩=some (.int .i64 a0_0):=bC BK334.out 0;have hcz17_1:w5.cell? ⟨gb334,1,none⟩=some (.int .i64 a0_1):=bC BK334.out 1;have hcz17_2:w5.cell? ⟨gb334,2,none⟩=some (.int .i64 a0_2):=bC BK334.out 2;have hcz17_3:w5.cell? ⟨gb334,3,none⟩=some (.int .i64 a0_3):=bC BK334.out 3;have hcz17_4:w5.cell? ⟨gb334,4,none⟩=some (.bool a0_4):=bC BK334.out 4;have hcz17_5:w5.cell? ⟨gb334,5,none⟩=some (.slice A0_5 l0_5.length c0_5):=bC BK334.out 5;have hcz17_6:w5.cell? ⟨gb334,6,none⟩=some (.slice A0_6 l0_6.length c0_6):=bC BK334.out 6;have hfz17_0:=blk_frozen BK334.out 0;have hfz17_1:=blk_frozen BK334.out 1;have hfz17_2:=blk_frozen BK334.out 2;have hfz17_3:=blk_frozen BK334.out 3;have hfz17_4:=blk_frozen BK334.out 4;have hfz17_5:=blk_frozen BK334.out 5;have hfz17_6:=blk_frozen BK334.out 6;go_wp2
     go_meet
     case rel=>exact⟨_,(true),eS,H',⟨by first|omega|exact Nat.le_refl _⟩,⟨by(with_reducible repeat(first|refine blk_drewN ?_ _|refine blk_drew ?_|refine blk_alloc ?_ _));exact BK334.out⟩,⟨by repeat(first| (with_reducible first|exact HB.out|apply below_alloc|apply pw_below_drewN|apply below_drew1|refine below_set ?_ GE334.out) |exact HB.out)⟩⟩
 case rest=>
  clear HC4;(try clear c1);(try clear p2);(try clear c7);(try clear c7b0);(try clear c7b1);(try clear c7b2);(try clear c9);(try clear c10);(try clear c13);(try clear c13b0);(try clear c13b1);(try clear c14);(try clear c15);(try clear c16);(try clear hcz11_0);(try clear hcz11_1);(try clear hcz11_2);(try clear hcz11_3);(try clear hcz11_4);(try clear hcz11_5);(try clear hcz11_6);(try clear hcz12_0);(try clear hcz12_1);(try clear hcz12_2);(try clear hcz12_3);(try clear hcz12_4);(try clear hcz12_5);(try clear hcz12_6);(try clear hcz15_0);(try clear hcz15_1);(try clear hcz15_2);(try clear hcz15_3);(try clear hcz15_4);(try clear hcz15_5);(try clear hcz15_6);(try clear hcz16_0);(try clear hcz16_1);(try clear hcz16_2);(try clear hcz16_3);(try clear hcz16_4);(try clear hcz16_5);(try clear hcz16_6);(try clear hcz17_0);(try clear hcz17_1);(try clear hcz17_2);(try clear hcz17_3);(try clear hcz17_4);(try clear hcz17_5);(try clear hcz17_6);(try clear hcz6_0);(try clear hcz6_1);(try clear hcz6_2);(try clear hcz6_3);(try clear hcz6_4);(try clear hcz6_5);(try clear hcz6_6);(try clear hcz8_0);(try clear hcz8_1);(try clear hcz8_2);(try clear hcz8_3);(try clear hcz8_4);(try clear hcz8_5);(try clear hcz8_6);(try clear hfz11_0);(try clear hfz11_1);(try clear hfz11_2);(try clear hfz11_3);(try clear hfz11_4);(try clear hfz11_5);(try clear hfz11_6);(try clear hfz12_0);(try clear hfz12_1);(try clear hfz12_2);(try clear hfz12_3);(try clear hfz12_4);(try clear hfz12_5);(try clear hfz12_6);(try clear hfz15_0);(try clear hfz15_1);(try clear hfz15_2);(try clear hfz15_3);(try clear hfz15_4);(try clear hfz15_5);(try clear hfz15_6);(try clear hfz16_0);(try clear hfz16_1);(try clear hfz16_2);(try clear hfz16_3);(try clear hfz16_4);(try clear hfz16_5);(try clear hfz16_6);(try clear hfz17_0);(try clear hfz17_1);(try clear hfz17_2);(try clear hfz17_3);(try clear hfz17_4);(try clear hfz17_5);(try clear hfz17_6);(try clear hfz6_0);(try clear hfz6_1);(try clear hfz6_2);(try clear hfz6_3);(try clear hfz6_4);(try clear hfz6_5);(try clear hfz6_6);(try clear hfz8_0);(try clear hfz8_1);(try clear hfz8_2);(try clear hfz8_3);(try clear hfz8_4);(try clear hfz8_5);(try clear hfz8_6);obtain⟨kq,x35_3,rfl,HA,HJ3,BK334,HB⟩:=hcut;cases kq with
  |zero=>exact absurd HA.out (by simp[fluxionref11_form.j0])
  |succ kj3=>
   have H:=HA.out;clear HA;simp only[fluxionref11_form.j0]at H;by_cases c18:x35_3=true
   ·subst c18;rw[if_pos rfl]at H;obtain rfl:=Option.some.inj H;go_wp2
    go_ret;exact⟨eQ,bQ⟩
   ·replace c18:=Bool.eq_false_iff.mpr c18;subst c18;rw[if_neg nF]at H;by_cases c19:a0_0=2
    ·rw[if_pos c19]at H;have c19b0:=beq_iff_eq.mpr c19;have c19b1:=bne_eq_false_iff_eq.mpr c19;clear c19;by_cases c20:a0_3=0
     ·rw[if_pos c20]at H;have c20b0:=beq_iff_eq.mpr c20;have c20b1:=bne_eq_false_iff_eq.mpr c20;clear c20;obtain⟨t337,A21,H⟩:=bO H;(try dsimp only at H);obtain rfl:=Option.some.inj H;have hcz22_0:wc.cell? ⟨gb334,0,none⟩=some (.int .i64 a0_0):=bC BK334.out 0;have hcz22_1:wc.cell? ⟨gb334,1,none⟩=some (.int .i64 a0_1):=bC BK334.out 1;have hcz22_2:wc.cell? ⟨gb334,2,none⟩=some (.int .i64 a0_2):=bC BK334.out 2;have hcz22_3:wc.cell? ⟨gb334,3,none⟩=some (.int .i64 a0_3):=bC BK334.out 3;have hcz22_4:wc.cell? ⟨gb334,4,none⟩=some (.bool a0_4):=bC BK334.out 4;have hcz22_5:wc.cell? ⟨gb334,5,none⟩=some (.slice A0_5 l0_5.length c0_5):=bC BK334.out 5;have hcz22_6:wc.cell? ⟨gb334,6,none⟩=some (.slice A0_6 l0_6.length c0_6):=bC BK334.out 6;have hfz22_0:=blk_frozen BK334.out 0;have hfz22_1:=blk_frozen BK334.out 1;have hfz22_2:=blk_frozen BK334.out 2;have hfz22_3:=blk_frozen BK334.out 3;have hfz22_4:=blk_frozen BK334.out 4;have hfz22_5:=blk_frozen BK334.out 5;have hfz22_6:=blk_frozen BK334.out 6;go_wp2_with (first| (go_at_call 34;(with_reducible refine(fluxionref02_IsRat.calls kj3 a0_3 a0_4 _ _ l0_5 _ _ l0_6 t337 _ (cbQ HR0_5 HB) HC0_5.out (cbQ HR0_6 HB) HC0_6.out A21.out).mono ?_);rintro e w23 ⟨rfl,hb⟩;replace BK334:=kB BK334 hb;replace HB:=hsQ hb;(try clear hb);(try clear hi)))
      go_ret;exact⟨eQ,bQ⟩
     ·rw[if_neg c20]at H;have c20b0:=beq_eq_false_iff_ne.mpr c20;have c20b1:=bne_iff_ne.mpr c20;obtain rfl:=Option.some.inj H;have hcz24_0:wc.cell? ⟨gb334,0,none⟩=some (.int .i64 a0_0):=bC BK334.out 0;have hcz24_1:wc.cell? ⟨gb334,1,none⟩=some (.int .i64 a0_1):=bC BK334.out 1;have hcz24_2:wc.cell? ⟨gb334,2,none⟩=some (.int .i64 a0_2):=bC BK334.out 2;have hcz24_3:wc.cell? ⟨gb334,3,none⟩=some (.int .i64 a0_3):=bC BK334.out 3;have hcz24_4:wc.cell? ⟨gb334,4,none⟩=some (.bool a0_4):=bC BK334.out 4;have hcz24_5:wc.cell? ⟨gb334,5,none⟩=some (.slice A0_5 l0_5.length c0_5):=bC BK334.out 5;have hcz24_6:wc.cell? ⟨gb334,6,none⟩=some (.slice A0_6 l0_6.length c0_6):=bC BK334.out 6;have hfz24_0:=blk_frozen BK334.out 0;have hfz24_1:=blk_frozen BK334.out 1;have hfz24_2:=blk_frozen BK334.out 2;have hfz24_3:=blk_frozen BK334.out 3;have hfz24_4:=blk_frozen BK334.out 4;have hfz24_5:=blk_frozen BK334.out 5;have hfz24_6:=blk_frozen BK334.out 6;go_wp2
      go_ret;exact⟨eQ,bQ⟩
    ·rw[if_neg c19]at H;have c19b0:=beq_eq_false_iff_ne.mpr c19;have c19b1:=bne_iff_ne.mpr c19;by_cases c25:a1=true
     ·subst c25;rw[if_pos rfl]at H;obtain⟨t338,A26,H⟩:=bO H;(try dsimp only at H);obtain rfl:=Option.some.inj H;have hcz27_0:wc.cell? ⟨gb334,0,none⟩=some (.int .i64 a0_0):=bC BK334.out 0;have hcz27_1:wc.cell? ⟨gb334,1,none⟩=some (.int .i64 a0_1):=bC BK334.out 1;have hcz27_2:wc.cell? ⟨gb334,2,none⟩=some (.int .i64 a0_2):=bC BK334.out 2;have hcz27_3:wc.cell? ⟨gb334,3,none⟩=some (.int .i64 a0_3):=bC BK334.out 3;have hcz27_4:wc.cell? ⟨gb334,4,none⟩=some (.bool a0_4):=bC BK334.out 4;have hcz27_5:wc.cell? ⟨gb334,5,none⟩=some (.slice A0_5 l0_5.length c0_5):=bC BK334.out 5;have hcz27_6:wc.cell? ⟨gb334,6,none⟩=some (.slice A0_6 l0_6.length c0_6):=bC BK334.out 6;have hfz27_0:=blk_frozen BK334.out 0;have hfz27_1:=blk_frozen BK334.out 1;have hfz27_2:=blk_frozen BK334.out 2;have hfz27_3:=blk_frozen BK334.out 3;have hfz27_4:=blk_frozen BK334.out 4;have hfz27_5:=blk_frozen BK334.out 5;have hfz27_6:=blk_frozen BK334.out 6;go_wp2_with (first| (go_at_call 35;(refine(fluxionref02_Equal.calls kj3 a0_3 a0_4 _ _ l0_5 _ _ l0_6 0 false _ _ ([] :List Int) _ _ ([] :List Int) t338 _ (cbQ HR0_5 HB) HC0_5.out (cbQ HR0_6 HB) HC0_6.out (Kd.C_nil _ _) (Nat.le_refl _) (Kd.C_nil _ _) (Nat.le_refl _) A26.out).mono ?_);rintro e w28 ⟨rfl,hb⟩;replace BK334:=kB BK334 hb;replace HB:=hsQ hb;(try clear hb);(try clear hi)))
      go_ret;exact⟨eQ,bQ⟩
     ·replace c25:=Bool.eq_false_iff.mpr c25;subst c25;rw[if_neg nF]at H;by_cases c29:t335=true
      ·subst c29;rw[if_pos rfl]at H;obtain⟨t339,A30,H⟩:=bO H;(try dsimp only at H);obtain rfl:=Option.some.inj H;have hcz31_0:wc.cell? ⟨gb334,0,none⟩=some (.int .i64 a0_0):=bC BK334.out 0;have hcz31_1:wc.cell? ⟨gb334,1,none⟩=some (.int .i64 a0_1):=bC BK334.out 1;have hcz31_2:wc.cell? ⟨gb334,2,none⟩=some (.int .i64 a0_2):=bC BK334.out 2;have hcz31_3:wc.cell? ⟨gb334,3,none⟩=some (.int .i64 a0_3):=bC BK334.out 3;have hcz31_4:wc.cell? ⟨gb334,4,none⟩=some (.bool a0_4):=bC BK334.out 4;have hcz31_5:wc.cell? ⟨gb334,5,none⟩=some (.slice A0_5 l0_5.length c0_5):=bC BK334.out 5;have hcz31_6:wc.cell? ⟨gb334,6,none⟩=some (.slice A0_6 l0_6.length c0_6):=bC BK334.out 6;have hfz31_0:=blk_frozen BK334.out 0;have hfz31_1:=blk_frozen BK334.out 1;have hfz31_2:=blk_frozen BK334.out 2;have hfz31_3:=blk_frozen BK334.out 3;have hfz31_4:=blk_frozen BK334.out 4;have hfz31_5:=blk_frozen BK334.out 5;have hfz31_6:=blk_frozen BK334.out 6;go_wp2_with (first| (go_at_call 35;(refine(fluxionref02_Equal.calls kj3 a0_3 a0_4 _ _ l0_5 _ _ l0_6 0 false _ _ ([] :List Int) _ _ ([] :List Int) t339 _ (cbQ HR0_5 HB) HC0_5.out (cbQ HR0_6 HB) HC0_6.out (Kd.C_nil _ _) (Nat.le_refl _) (Kd.C_nil _ _) (Nat.le_refl _) A30.out).mono ?_);rintro e w32 ⟨rfl,hb⟩;replace BK334:=kB BK334 hb;replace HB:=hsQ hb;(try clear hb);(try clear hi)))
       go_ret;exact⟨eQ,bQ⟩
      ·replace c29:=Bool.eq_false_iff.mpr c29;subst c29;rw[if_neg nF]at H;obtain rfl:=Option.some.inj H;have hcz33_0:wc.cell? ⟨gb334,0,none⟩=some (.int .i64 a0_0):=bC BK334.out 0;have hcz33_1:wc.cell? ⟨gb334,1,none⟩=some (.int .i64 a0_1):=bC BK334.out 1;have hcz33_2:wc.cell? ⟨gb334,2,none⟩=some (.int .i64 a0_2):=bC BK334.out 2;have hcz33_3:wc.cell? ⟨gb334,3,none⟩=some (.int .i64 a0_3):=bC BK334.out 3;have hcz33_4:wc.cell? ⟨gb334,4,none⟩=some (.bool a0_4):=bC BK334.out 4;have hcz33_5:wc.cell? ⟨gb334,5,none⟩=some (.slice A0_5 l0_5.length c0_5):=bC BK334.out 5;have hcz33_6:wc.cell? ⟨gb334,6,none⟩=some (.slice A0_6 l0_6.length c0_6):=bC BK334.out 6;have hfz33_0:=blk_frozen BK334.out 0;have hfz33_1:=blk_frozen BK334.out 1;have hfz33_2:=blk_frozen BK334.out 2;have hfz33_3:=blk_frozen BK334.out 3;have hfz33_4:=blk_frozen BK334.out 4;have hfz33_5:=blk_frozen BK334.out 5;have hfz33_6:=blk_frozen BK334.out 6;go_wp2
       go_ret;exact⟨eQ,bQ⟩
def fluxionref11_CheckL(k:Nat)(n0:Int):List S44→Nat→Option Int
 | [],_=>some 0
 |s::ss,i=>(fluxionref11_form.f k s.f0 s.f1 s.f2 s.f3.f0 s.f3.f1 s.f3.f2 s.f3.f3 (decide ((i:Int)< n0))).bind fun ok=>if ok=true then((fluxionref11_Has.f s.f0).bind fun ab=>if(ab.1 && outOf i s.f1||ab.2 && outOf i s.f2)=true then some 6 else fluxionref11_CheckL k n0 ss (i+1))else some 5
def fluxionref11_Check.f(k:Nat)(n0:Int)(ss:List S44)(os:List Int):Option Int:=
 if(ss.length:Int) >262144 then some 3 else if(os.length:Int) >32768 then some 3 else if n0< 0 then some 2 else if n0 >(ss.length:Int)then some 2
 else(fluxionref11_CheckL k n0 ss 0).bind fun e=>if e=0 then(if os.any (outOf (ss.length:Int))=true then some 6 else some 0)else some e
theorem fluxionref11_Check.calls(k:Nat)(n0:Int)(A1:Option Addr)(c1:Nat)(ss:List S44)(A2:Option Addr)(c2:Nat)(os:List Int)(r:Int)(w:World)(hr1:Kd.C k44 w A1 ss.length ss)(hc1:ss.length≤c1)(hr2:Kd.C (Kd.int .i64) w A2 os.length os)(hc2:os.length≤c2)(h:fluxionref11_Check.f k n0 ss os=some r):
  Calls Tryd.prog 7 #[.agg #[.int .i64 n0,.slice A1 ss.length c1,.slice A2 os.length c2]] w fun e w'=>e= .returned (.int .i64 r)∧Below w.heap.size w w':=by
 have HR1:=Aside0.mk (And.intro hr1 hc1);have HR2:=Aside0.mk (And.intro hr2 hc2);have hn1:ss.length≤9223372036854775807:=hr1.2.1;have hn2:os.length≤9223372036854775807:=hr2.2.1;have hu25:=Tryd.underlying25;have hu44:=Tryd.underlying44;unfold fluxionref11_Check.f at h;clear hr1 hr2 hc1 hc2;go_enter Tryd.func7,Tryd.ntmps7
 go_upto_block 0 with ((with_reducible refine gD 1 ?_);refine bx_ 1 #[.int .i64 n0,.slice A1 ss.length c1,.slice A2 os.length c2] 25 ?_;intro g1 hg w1 hbox hb;have K1:=Aside0.mk hbox;have HB:=Aside0.mk hb;clear hg hbox hb;obtain⟨y1,y1z,y2,y2z,y3,y3z⟩:=c3Q K1.out)
 by_cases h1:(ss.length:Int) >262144
 ·rw[if_pos h1]at h;obtain rfl:=Option.some.inj h;go_wp2
  go_ret;exact⟨rfl,HB.out⟩
 ·rw[if_neg h1]at h;by_cases h2:(os.length:Int) >32768
  ·rw[if_pos h2]at h;obtain rfl:=Option.some.inj h;go_wp2
   go_ret;exact⟨rfl,HB.out⟩
  ·rw[if_neg h2]at h;by_cases h3:n0< 0
   ·rw[if_pos h3]at h;obtain rfl:=Option.some.inj h;go_wp2
    go_ret;exact⟨rfl,HB.out⟩
   ·rw[if_neg h3]at h;by_cases h4:n0 >(ss.length:Int)
    ·rw[if_pos h4]at h;obtain rfl:=Option.some.inj h;go_wp2
     go_ret;exact⟨rfl,HB.out⟩
    ·rw[if_neg h4]at h;obtain⟨e0,HL0,h⟩:=bO h;have HE:=Aside0.mk h;clear h;have hp1:os.length≤32768:=by omega
     have hp2:ss.length≤262144:=by omega
     have hu:=HE.out;have HQL:=Aside0.mk (by rw[List.drop_zero];exact HL0.out:fluxionref11_CheckL k n0 (ss.drop 0) 0=some e0);clear hu h1 h2 HL0;go_wp2
     go_loopg [3] ss.length (fun gg v3 wq=> ∃ (i:Nat) (z:Int),i≤ss.length∧ss.length - i≤gg∧v3= .int .i64 z∧Aside0 (z=(i:Int))∧Aside0 (fluxionref11_CheckL k n0 (ss.drop i) i=some e0)∧Aside0 (Below w.heap.size w wq)∧Aside0 (wq.heap[g1]? =some (.cells #[.int .i64 n0,.slice A1 ss.length c1,.slice A2 os.length c2] 25 (0,0))))
     case atStart=>exact⟨0,0,Nat.zero_le _,by omega,rfl,⟨rfl⟩,HQL,HB,K1⟩
     case round=>
     clear HQL HB K1 y1 y1z y2 y2z y3 y3z;obtain⟨i,z,hi,hgi,rfl,HZ,HL,HBw,K1⟩:=hrel;obtain⟨wr0,hwr0⟩: ∃wr0:World,wr0=wr:=⟨_,rfl⟩;subst hwr0;obtain⟨y1,y1z,y2,y2z,y3,y3z⟩:=c3Q K1.out;by_cases hlt:i< ss.length
     ·have hltz:z< (ss.length:Int):=by have:=HZ.out;omega
      have hz0:0≤z:=by have:=HZ.out;omega
      have HZN:=Aside0.mk (by have:=HZ.out;omega:z.toNat=i);obtain⟨ad,A5,c5,A6,c6,e0_,x0,x1,x2,x3,x4,x5,x6,l5,q5,l6,q6⟩:=at_T44 (Kd.C_below HR1.out.1 HBw.out) z hz0 hltz;subst e0_;have hx:rd_T44 ss z=ss[i] :=by unfold rd_T44;rw[HZN.out];simp[hlt]
      obtain⟨s,hs⟩: ∃s,s=ss[i] :=⟨_,rfl⟩;rw[hx,←hs]at x0 x1 x2 x3 x4 x5 x6 l5 q5 l6 q6;have hd:ss.drop i=s::ss.drop (i+1):=by rw[hs];exact List.drop_eq_getElem_cons hlt
      have hL:=HL.out;rw[hd,fluxionref11_CheckL,←HZ.out]at hL;obtain⟨ok,HOK,hL⟩:=bO hL;have HL':=Aside0.mk hL;have HQ5:=Aside0.mk (And.intro q5 l5);have HQ6:=Aside0.mk (And.intro q6 l6);clear hL HL hd hs hx l5 q5 l6 q6;go_upto_region 9 with ((with_reducible refine gD 4 ?_);refine bx_ 4 #[.int .i64 0,.int .i64 0,.int .i64 0,.int .i64 0,.bool false,.slice none 0 0,.slice none 0 0] 44 ?_;intro g5 hg w5 hbox hb;have G5:=Aside0.mk (show wr0.heap.size≤g5 by rw[hg];exact Nat.le_refl _);have K5:=Aside0.mk hbox;have HB5:=Aside0.mk hb;clear hg hbox hb;obtain⟨z1,z2,z3,z4,z5,z6,z7⟩:=c7Q K5.out;obtain⟨f1,f2,f3,f4,f5,f6,f7⟩:=c7Z K5.out)
      generalize hq_:World.setCell (World.setCell (World.setCell (World.setCell (World.setCell (World.setCell (World.setCell w5 ⟨g5,0,none⟩ (.int .i64 s.f0)) ⟨g5,1,none⟩ (.int .i64 s.f1)) ⟨g5,2,none⟩ (.int .i64 s.f2)) ⟨g5,3,none⟩ (.int .i64 s.f3.f0)) ⟨g5,4,none⟩ (.bool s.f3.f1)) ⟨g5,5,none⟩ (.slice A5 s.f3.f2.length c5)) ⟨g5,6,none⟩ (.slice A6 s.f3.f3.length c6)=w6;have K6:=Aside0.mk (hq_▸blk7 K5.out (.int .i64 s.f0) (.int .i64 s.f1) (.int .i64 s.f2) (.int .i64 s.f3.f0) (.bool s.f3.f1) (.slice A5 s.f3.f2.length c5) (.slice A6 s.f3.f3.length c6):w6.heap[g5]? =some (.cells #[.int .i64 s.f0,.int .i64 s.f1,.int .i64 s.f2,.int .i64 s.f3.f0,.bool s.f3.f1,.slice A5 s.f3.f2.length c5,.slice A6 s.f3.f3.length c6] 44 (0,0)));have HB6r:=Aside0.mk (hq_▸below7 HB5.out G5.out (.int .i64 s.f0) (.int .i64 s.f1) (.int .i64 s.f2) (.int .i64 s.f3.f0) (.bool s.f3.f1) (.slice A5 s.f3.f2.length c5) (.slice A6 s.f3.f3.length c6):Below wr0.heap.size wr0 w6);clear hq_ K5 HB5 x0 x1 x2 x3 x4 x5 x6 z1 z2 z3 z4 z5 z6 z7 f1 f2 f3 f4 f5 f6 f7 y1 y1z y2 y2z y3 y3z;have HB6:=Aside0.mk (below_step HBw.out HB6r.out);have K16:=Aside0.mk (blk_below K1.out HB6r.out);obtain⟨y1,y1z,y2,y2z,y3,y3z⟩:=c3Q K16.out;obtain⟨z1,z2,z3,z4,z5,z6,z7⟩:=c7Q K6.out;go_upto_if 49 with (go_at_call 15;(with_reducible refine(fluxionref11_form.calls k s.f0 s.f1 s.f2 s.f3.f0 s.f3.f1 A5 c5 s.f3.f2 A6 c6 s.f3.f3 (decide (z< n0)) ok _ (Kd.C_below HQ5.out.1 HB6r.out) HQ5.out.2 (Kd.C_below HQ6.out.1 HB6r.out) HQ6.out.2 HOK.out).mono ?_);rintro e_ w7 ⟨rfl,hb⟩;have HB7:=Aside0.mk (below_step HB6.out hb);have K17:=Aside0.mk (blk_below K16.out hb);have K7:=Aside0.mk (blk_below K6.out hb);clear hb)
      clear y1 y1z y2 y2z y3 y3z z1 z2 z3 z4 z5 z6 z7 K16 K6 HB6 HB6r;have hL:=HL'.out;cases ok with
      |false=>
       rw[if_neg (by decide)]at hL;obtain rfl:=Option.some.inj hL;have h:=HE.out;rw[if_neg (by decide)]at h;obtain rfl:=Option.some.inj h;go_wp2
       go_ret;exact⟨rfl,HB7.out⟩
      |true=>
       rw[if_pos rfl]at hL;obtain⟨ab,HAB,hL⟩:=bO hL;obtain⟨b1,b2⟩:=ab;have HL2:=Aside0.mk hL;clear hL HL';obtain⟨y1,y1z,y2,y2z,y3,y3z⟩:=c3Q K17.out;obtain⟨z1,z2,z3,z4,z5,z6,z7⟩:=c7Q K7.out;go_upto_region 12 with (go_at_call 16;(with_reducible refine(fluxionref11_Has.calls s.f0 b1 b2 _ HAB.out).mono ?_);rintro e_ w8 ⟨rfl,⟨nd,hnd⟩⟩;have HB8:=Aside0.mk (show Below w.heap.size w w8 from by rw[hnd];exact pw_below_drewN HB7.out nd);have K18:=Aside0.mk (show w8.heap[g1]? =some (.cells #[.int .i64 n0,.slice (some ad) ss.length c1,.slice A2 os.length c2] 25 (0,0))from by rw[hnd];exact K17.out);have K8:=Aside0.mk (show w8.heap[g5]? =some (.cells #[.int .i64 s.f0,.int .i64 s.f1,.int .i64 s.f2,.int .i64 s.f3.f0,.bool s.f3.f1,.slice A5 s.f3.f2.length c5,.slice A6 s.f3.f3.length c6] 44 (0,0))from by rw[hnd];exact K7.out);clear hnd)
       clear y1 y1z y2 y2z y3 y3z z1 z2 z3 z4 z5 z6 z7 K17 K7 HB7;obtain⟨z1,z2,z3,z4,z5,z6,z7⟩:=c7Q K8.out;go_cut [81]from 56 to 81 (fun s81 wx=>s81= .bool (b1 && outOf z s.f1||b2 && outOf z s.f2)∧wx=w8)
       case first=>
        cases b1 with
        |false=>
         cases b2 with
         |false=>
          go_wp2_with fail
          go_meet
          exact⟨by simp[*,outOf],rfl⟩
         |true=>
          by_cases q1:s.f2< 0
          ·go_wp2_with fail
           go_meet
           exact⟨by simp[*,outOf],rfl⟩
          ·by_cases q2:z≤s.f2
           ·go_wp2_with fail
            go_meet
            exact⟨by simp[*,outOf],rfl⟩
           ·go_wp2_with fail
            go_meet
            exact⟨by simp[*,outOf],rfl⟩
        |true=>
         by_cases p1:s.f1< 0
         ·go_wp2_with fail
          go_meet
          exact⟨by simp[*,outOf],rfl⟩
         ·by_cases p2:z≤s.f1
          ·go_wp2_with fail
           go_meet
           exact⟨by simp[*,outOf],rfl⟩
          ·
           cases b2 with
           |false=>
            go_wp2_with fail
            go_meet
            exact⟨by simp[*,outOf],rfl⟩
           |true=>
            by_cases q1:s.f2< 0
            ·go_wp2_with fail
             go_meet
             exact⟨by simp[*,outOf],rfl⟩
            ·by_cases q2:z≤s.f2
             ·go_wp2_with fail
              go_meet
              exact⟨by simp[*,outOf],rfl⟩
             ·go_wp2_with fail
              go_meet
              exact⟨by simp[*,outOf],rfl⟩
       case rest=>
        obtain⟨rfl,rfl⟩:=hcut;have hL:=HL2.out;clear z1 z2 z3 z4 z5 z6 z7;obtain⟨y1,y1z,y2,y2z,y3,y3z⟩:=c3Q K18.out;have hz1:wrap64 (z+1)=z+1:=depW ⟨by omega,by omega⟩;cases hbad:(b1 && outOf z s.f1||b2 && outOf z s.f2)with
        |true=>
         rw[if_pos (by first|exact hbad|rfl)]at hL;obtain rfl:=Option.some.inj hL;have h:=HE.out;rw[if_neg (by decide)]at h;obtain rfl:=Option.some.inj h;go_wp2
         go_ret;exact⟨rfl,HB8.out⟩
        |false=>
         rw[if_neg (by rw[hbad];decide)]at hL;have HL3:=Aside0.mk hL;clear hL;go_wp2
         go_roundg (ss.length - (i+1))
         case measure=>omega
         case rel=>exact⟨i+1,z+1,hlt,Nat.le_refl _,by first|rfl| (rw[hz1]),⟨by have:=HZ.out;omega⟩,HL3,HB8,K18⟩
     ·have hltz: ¬z< (ss.length:Int):=by have:=HZ.out;omega
      have hL:=HL.out;rw[List.drop_eq_nil_of_le (Nat.le_of_not_lt hlt),fluxionref11_CheckL]at hL;obtain rfl:=Option.some.inj hL;have h:=HE.out;rw[if_pos rfl]at h;clear hL HL HE HZ hi hgi hlt;have HO:=Aside0.mk h;clear h;have HBo:=HBw;have hK1:=K1;go_wp2
      go_loopg [7] os.length (fun gg v7 wq=> ∃ (q:Nat) (zq:Int),q≤os.length∧os.length - q≤gg∧v7= .int .i64 zq∧Aside0 (zq=(q:Int))∧Aside0 ((os.take q).any (outOf (ss.length:Int))=false)∧Aside0 (Below w.heap.size w wq)∧Aside0 (wq.heap[g1]? =some (.cells #[.int .i64 n0,.slice A1 ss.length c1,.slice A2 os.length c2] 25 (0,0))))
      case atStart=>exact⟨0,0,Nat.zero_le _,by omega,rfl,⟨rfl⟩,⟨rfl⟩,HBo,hK1⟩
      case round=>
      clear HBo hK1 K1 HBw y1 y1z y2 y2z y3 y3z;obtain⟨q,zq,hq,hgq,rfl,HZQ,HAQ,HBq,K1⟩:=hrel;obtain⟨y1,y1z,y2,y2z,y3,y3z⟩:=c3Q K1.out;by_cases hqt:q< os.length
      ·have hqz:zq< (os.length:Int):=by have:=HZQ.out;omega
       have hq0:0≤zq:=by have:=HZQ.out;omega
       have HZT:=Aside0.mk (by have:=HZQ.out;omega:zq.toNat=q);obtain⟨ad9,e9,x9⟩:=Kd.at_int (Kd.C_below HR2.out.1 HBq.out) zq hq0 hqz;subst e9;have hrd:rd os zq=os[q] :=by unfold rd;rw[HZT.out];simp[hqt]
       obtain⟨p,hp⟩: ∃p,p=os[q] :=⟨_,rfl⟩;rw[hrd,←hp]at x9;have hmem:p∈os:=by rw[hp];exact List.getElem_mem hqt
       have hnext:(os.take (q+1)).any (outOf (ss.length:Int))=outOf (ss.length:Int) p:=by
        rw[List.take_add_one,List.getElem?_eq_getElem hqt,List.any_append,HAQ.out,←hp];simp
       have HM:=Aside0.mk hmem;have HNX:=Aside0.mk hnext;have hq1:wrap64 (zq+1)=zq+1:=depW ⟨by omega,by omega⟩;clear hnext hmem hp hrd HAQ;by_cases p1:p< 0
       ·have h:=HO.out;rw[if_pos (List.any_eq_true.2 ⟨p,HM.out,by simp[outOf,p1]⟩)]at h;obtain rfl:=Option.some.inj h;go_upto_region 17 with fail
        go_quiet (fail)
        go_wp2
        go_ret;exact⟨rfl,pw_below_drewN HBq.out _⟩
       ·by_cases p2:(ss.length:Int)≤p
        ·have h:=HO.out;rw[if_pos (List.any_eq_true.2 ⟨p,HM.out,by simp[outOf,p2]⟩)]at h;obtain rfl:=Option.some.inj h;go_upto_region 17 with fail
         go_quiet (fail)
         go_wp2
         go_ret;exact⟨rfl,pw_below_drewN HBq.out _⟩
        ·have HOK:=Aside0.mk (by rw[HNX.out];simp[outOf,p1,p2] :(os.take (q+1)).any (outOf (ss.length:Int))=false);go_upto_region 17 with fail
         go_quiet (fail)
         go_wp2
         go_roundg (os.length - (q+1))
         case measure=>omega
         case rel=>exact⟨q+1,zq+1,hqt,Nat.le_refl _,by first|rfl| (rw[hq1]),⟨by have:=HZQ.out;omega⟩,HOK,⟨pw_below_drewN HBq.out _⟩,K1⟩
      ·have hqz: ¬zq< (os.length:Int):=by have:=HZQ.out;omega
       obtain rfl:q=os.length:=by omega
       have ha:=HAQ.out;rw[List.take_length]at ha;have h:=HO.out;rw[if_neg (by rw[ha];decide)]at h;obtain rfl:=Option.some.inj h;go_wp2
       go_ret;exact⟨rfl,HBq.out⟩
theorem IndexFunc_LBool.calls(A0:Option Addr)(c0:Nat)(l0:List (List Bool))(w:World)(g:Nat)(lb:Array Value)(p:List Bool→Bool)
  (eg: ∀args w,(callFunc g args).run Tryd.prog w= .ok (.enter g args) w)
  (hr0:Kd.C (Kd.slice 4 Kd.bool) w A0 l0.length l0)
  (hp: ∀ (W:World) (x:List Bool) (v:Value),Below w.heap.size w W→Kd.K (Kd.slice 4 Kd.bool) W x [v] →x∈l0→FnAny g lb v (p x) W):
  Calls Tryd.prog 72 #[.slice A0 l0.length c0,.func (.func g) #[] lb] w fun e w'=>(∃i:Int,e= .returned (.int .i64 i)∧(decide (0≤i)=l0.any p))∧Below w.heap.size w w':=by
 have HR:=Aside0.mk hr0;have HP:=Aside0.mk hp;have hn:l0.length≤9223372036854775807:=hr0.2.1;clear hr0 hp;go_enter Tryd.func72,Tryd.ntmps72
 go_wp2
 go_loopg [5,8] l0.length (fun gg _ s8 wr=> ∃kk:Nat,kk≤l0.length∧l0.length - kk≤gg∧s8= .int .i64 kk∧Aside0 (Below w.heap.size w wr)∧Aside0 (∀x,x∈l0.take kk→p x=false))
 case atStart=>exact⟨0,Nat.zero_le _,by omega,rfl,⟨Below.refl _ _⟩,⟨by simp⟩⟩
 case round=>
  obtain⟨kk,hkk,hg,rfl,HB,HA⟩:=hrel;by_cases hlt:kk< l0.length
  ·have hltz:(kk:Int)< (l0.length:Int):=by omega
   obtain⟨ad,c,e0,hc1,hK,hc0'⟩:=Kd.C_get (Kd.C_below HR.out HB.out) ([] :List Bool) (kk:Int) (by omega) (by omega);subst e0;obtain⟨v,rfl⟩: ∃v,c= [v] :=by
    match c,(show c.length=1 from hc1)with
    | [v],_=>exact⟨v,rfl⟩
   have hcell:wr.cell? (ad.add kk)=some v:=by
    have:=hc0' 0 v rfl
    rw[show(Kd.slice 4 Kd.bool).sz=1 from rfl]at this
    simpa using this
   have hx:l0.getD (Int.toNat kk) ([] :List Bool)=l0[kk] :=by simp[hlt]
   rw[hx]at hK;have hcall:=HP.out wr l0[kk] v HB.out hK (List.getElem_mem _);unfold FnAny at hcall;have HC:=Aside0.mk hcall;clear hcall hc0' hK hx hc1;obtain⟨b,hqq⟩: ∃b,p l0[kk] =b:=⟨_,rfl⟩;rw[hqq]at HC;have Hqq:=Aside0.mk hqq;clear hqq;cases b with
   |true=>
    go_wp2_with fail
    refine HC.out.mono ?_;rintro e w' ⟨rfl,hb⟩;go_wp2_with fail
    go_ret;refine⟨⟨_,rfl,?_⟩,HB.out.trans (hb.mono HB.out.size)⟩;rw[show decide (0≤(kk:Int))=true from by simp];exact(List.any_eq_true.2 ⟨l0[kk],List.getElem_mem _,Hqq.out⟩).symm
   |false=>
    go_wp2_with fail
    refine HC.out.mono ?_;rintro e w' ⟨rfl,hb⟩;go_wp2_with fail
    go_roundg (l0.length - (kk+1))
    case measure=>omega
    case rel=>
     refine⟨kk+1,by omega,by omega,by go_num,⟨HB.out.trans (hb.mono HB.out.size)⟩,⟨fun x hx=>?_⟩⟩;rw[List.take_succ_eq_append_getElem hlt,List.mem_append]at hx;rcases hx with hx|hx
     ·exact HA.out x hx
     ·rw[List.mem_singleton.1 hx];exact Hqq.out
  ·have hltz: ¬ (kk:Int)< (l0.length:Int):=by omega
   have:kk=l0.length:=by omega
   subst this;go_wp2
   go_ret;refine⟨⟨_,rfl,?_⟩,HB.out⟩;rw[List.take_length]at HA;rw[show decide ((0:Int)≤ -1)=false from rfl];exact(List.any_eq_false.2 (fun x hx=>by rw[HA.out x hx];decide)).symm
theorem ContainsFunc_LBool.calls(A0:Option Addr)(c0:Nat)(l0:List (List Bool))(w:World)(g:Nat)(lb:Array Value)(p:List Bool→Bool)
  (eg: ∀args w,(callFunc g args).run Tryd.prog w= .ok (.enter g args) w)
  (hr0:Kd.C (Kd.slice 4 Kd.bool) w A0 l0.length l0)
  (hp: ∀ (W:World) (x:List Bool) (v:Value),Below w.heap.size w W→Kd.K (Kd.slice 4 Kd.bool) W x [v] →x∈l0→FnAny g lb v (p x) W):
  Calls Tryd.prog 54 #[.slice A0 l0.length c0,.func (.func g) #[] lb] w fun e w'=>e= .returned (.bool (l0.any p))∧Below w.heap.size w w':=by
 have HX:=Aside0.mk (IndexFunc_LBool.calls A0 c0 l0 w g lb p eg hr0 hp);clear eg hr0 hp;go_enter Tryd.func54,Tryd.ntmps54
 go_wp2_with fail
 refine HX.out.mono ?_;rintro e w' ⟨⟨i,rfl,hi⟩,hb⟩;have Hi:=Aside0.mk hi;clear hi HX;go_wp2_with fail
 go_ret;exact⟨by rw[←Hi.out];rfl,hb⟩
end Go.Proofs.YtjjbondlcjnaiaaDoor.PSparsePatterns
