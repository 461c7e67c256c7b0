-- written by a program of this session, after the kit's print
import Derived.Test.YtjjbondlcjnaiaaGreatPSparseSpreadsx0
namespace Go.Proofs.YtjjbondlcjnaiaaGreat.PSparseSpreads
open Go.RowKit Go.Proofs.YtjjbondlcjnaiaaGreatW.PrintWords Go.Proofs.YtjjbondlcjnaiaaGreatW.PrintLast Go.Proofs.YtjjbondlcjnaiaaGreatW.PrintMore
set_option maxHeartbeats 8000000
set_option maxRecDepth 100000
attribute [local go_sem] max2_int min2_int max_two min_two max_three min_three max_four min_four
set_option linter.unusedVariables false
set_option linter.unusedSimpArgs false
def fluxionref19_Seeded.l0:Nat→List Int→Int→Option (Int)
 |0,_,_=>none
 |k+1,x0,x3=>if x3< (x0.length:Int)then(if 0≤x3 then(if(rd x0 x3)< 0 then(some 2)else(if(rd x0 x3)≥(x0.length:Int)then(some 2)else(fluxionref19_Seeded.l0 k x0 (wrap64 (x3+1)))))else(none))else(some 0)
def fluxionref19_Seeded.f(k:Nat)(l0:List Int):Option (Int):=if(l0.length:Int) >4096 then(some 3)else(fluxionref19_Seeded.l0 k l0 0)
theorem fluxionref19_Seeded.calls(k:Nat)(A0:Option Addr)(c0:Nat)(l0:List Int)(r:Int)(w:World)(hr0:Kd.C (Kd.int .i64) w A0 l0.length l0)(hc0:l0.length≤c0)(h:fluxionref19_Seeded.f k l0=some r):
  Calls Tryz.prog 14 #[.slice A0 l0.length c0] w fun e w'=>e= .returned (.int .i64 r)∧Drawn0 w w':=by
 have HR0:=Aside0.mk hr0;have HC0:=Aside0.mk hc0;clear hr0 hc0;have H:=h;clear h;unfold fluxionref19_Seeded.f at H;by_cases c2:(l0.length:Int) >4096
 ·rw[if_pos c2]at H;have c2b0:=decide_eq_true c2;have c2b1:decide (4096< l0.length)=true:=decide_eq_true (by omega);clear c2;obtain rfl:=Option.some.inj H;go_enter Tryz.func14,Tryz.ntmps14
  go_wp2
  go_ret;exact⟨by first|rfl| (simp;done) | (simp[*];done),by repeat(first|exact Drawn0.refl _|apply Drawn0.step)⟩
 ·rw[if_neg c2]at H;have c2b0:=decide_eq_false c2;have c2b1:decide (4096< l0.length)=false:=decide_eq_false (by omega);clear c2;have H':=Aside0.mk H;clear H;go_enter Tryz.func14,Tryz.ntmps14
  go_wp2
  go_loopg [3] k (fun kq v3 w'=> ∃ (x3_1:Int),v3= .int .i64 x3_1∧Aside0 (fluxionref19_Seeded.l0 kq l0 x3_1=some r)∧Aside0 (kq≤k)∧Drawn0 w w')
  case atStart=>exact⟨(0),eS,H',⟨Nat.le_refl _⟩,by repeat(first|exact Drawn0.refl _|apply Drawn0.step)⟩
  case round=>
   clear H';(try clear c1);(try clear c2);(try clear c2b0);(try clear c2b1);(try clear p2);obtain⟨x3_1,rfl,HA,HK1,⟨m1,rfl⟩⟩:=hrel;cases gk with
   |zero=>exact absurd HA.out (by simp[fluxionref19_Seeded.l0])
   |succ k1=>
    have H:=HA.out;clear HA;simp only[fluxionref19_Seeded.l0]at H;by_cases c3:x3_1< (l0.length:Int)
    ·rw[if_pos c3]at H;have c3b0:=decide_eq_true c3;clear c3;replace H:=iN H;obtain⟨c4,H⟩:=H;have c4b0:=decide_eq_true c4;clear c4;by_cases c5:(rd l0 x3_1)< 0
     ·rw[if_pos c5]at H;have c5b0:=decide_eq_true c5;clear c5;obtain rfl:=Option.some.inj H;have p306:0≤(x3_1:Int):=dQ;have q306:x3_1< (l0.length:Int):=dQ;obtain⟨ad306,e306,hx306_0⟩:=Kd.at_int HR0.out x3_1 p306 q306;cases e306;replace p306:=eq_true p306;replace q306:=eq_true q306;go_wp2
      go_ret;exact⟨by first|rfl| (simp;done) | (simp[*];done),by repeat(first|exact Drawn0.refl _|apply Drawn0.step)⟩
     ·rw[if_neg c5]at H;have c5b0:=decide_eq_false c5;clear c5;by_cases c6:(rd l0 x3_1)≥(l0.length:Int)
      ·rw[if_pos c6]at H;have c6b0:=decide_eq_true c6;clear c6;obtain rfl:=Option.some.inj H;have p306:0≤(x3_1:Int):=dQ;have q306:x3_1< (l0.length:Int):=dQ;obtain⟨ad306,e306,hx306_0⟩:=Kd.at_int HR0.out x3_1 p306 q306;cases e306;replace p306:=eq_true p306;replace q306:=eq_true q306;have p307:0≤(x3_1:Int):=dQ;have q307:x3_1< (l0.length:Int):=dQ;obtain⟨ad307,e307,hx307_0⟩:=Kd.at_int HR0.out x3_1 p307 q307;obtain rfl:ad306=ad307:=(by injection e307);replace p307:=eq_true p307;replace q307:=eq_true q307;go_wp2
       go_ret;exact⟨by first|rfl| (simp;done) | (simp[*];done),by repeat(first|exact Drawn0.refl _|apply Drawn0.step)⟩
      ·rw[if_neg c6]at H;have c6b0:=decide_eq_false c6;clear c6;have H':=Aside0.mk H;clear H;have p306:0≤(x3_1:Int):=dQ;have q306:x3_1< (l0.length:Int):=dQ;obtain⟨ad306,e306,hx306_0⟩:=Kd.at_int HR0.out x3_1 p306 q306;cases e306;replace p306:=eq_true p306;replace q306:=eq_true q306;have p307:0≤(x3_1:Int):=dQ;have q307:x3_1< (l0.length:Int):=dQ;obtain⟨ad307,e307,hx307_0⟩:=Kd.at_int HR0.out x3_1 p307 q307;obtain rfl:ad306=ad307:=(by injection e307);replace p307:=eq_true p307;replace q307:=eq_true q307;go_wp2
       go_roundg k1
       case measure=>have:=HK1.out;omega
       case rel=>exact⟨(wrap64 (x3_1+1)),eS,H',⟨by have:=HK1.out;omega⟩,by repeat(first|exact Drawn0.refl _|apply Drawn0.step)⟩
    ·rw[if_neg c3]at H;have c3b0:=decide_eq_false c3;clear c3;obtain rfl:=Option.some.inj H;go_wp2
     go_ret;exact⟨by first|rfl| (simp;done) | (simp[*];done),by repeat(first|exact Drawn0.refl _|apply Drawn0.step)⟩
def fluxionref19_Many.l0:Nat→List Int→Int→Int→Option (Int)
 |0,_,_,_=>none
 |k+1,x0,x3,x4=>if x4< (x0.length:Int)then(if 0≤x4 then(fluxionref19_Many.l0 k x0 (mx x3 (wrap64 ((rd x0 x4) +1))) (wrap64 (x4+1)))else(none))else(some x3)
def fluxionref19_Many.f(k:Nat)(l0:List Int):Option (Int):=fluxionref19_Many.l0 k l0 0 0
theorem fluxionref19_Many.calls(k:Nat)(A0:Option Addr)(c0:Nat)(l0:List Int)(r:Int)(w:World)(hr0:Kd.C (Kd.int .i64) w A0 l0.length l0)(hc0:l0.length≤c0)(h:fluxionref19_Many.f k l0=some r):
  Calls Tryz.prog 15 #[.slice A0 l0.length c0] w fun e w'=>e= .returned (.int .i64 r)∧Below w.heap.size w w':=by
 have HR0:=Aside0.mk hr0;have HC0:=Aside0.mk hc0;clear hr0 hc0;have HB:=Aside0.mk (Below.refl w.heap.size w);have H:=h;clear h;unfold fluxionref19_Many.f at H;have H':=Aside0.mk H;clear H;go_enter Tryz.func15,Tryz.ntmps15
 go_wp2
 go_loopg [3,4] k (fun kq v3 v4 w'=> ∃ (x3_1:Int) (x4_1:Int),v3= .int .i64 x3_1∧v4= .int .i64 x4_1∧Aside0 (fluxionref19_Many.l0 kq l0 x3_1 x4_1=some r)∧Aside0 (kq≤k)∧Aside0 (Below w.heap.size w w'))
 case atStart=>exact⟨(0),(0),eS,eS,H',⟨Nat.le_refl _⟩,⟨bQ⟩⟩
 case round=>
  clear H';(try clear c1);obtain⟨x3_1,x4_1,rfl,rfl,HA,HK1,HB⟩:=hrel;cases gk with
  |zero=>exact absurd HA.out (by simp[fluxionref19_Many.l0])
  |succ k1=>
   have H:=HA.out;clear HA;simp only[fluxionref19_Many.l0]at H;by_cases c2:x4_1< (l0.length:Int)
   ·rw[if_pos c2]at H;have c2b0:=decide_eq_true c2;clear c2;replace H:=iN H;obtain⟨c3,H⟩:=H;have c3b0:=decide_eq_true c3;clear c3;obtain⟨ji4,hji4⟩: ∃j_:Int,(mx x3_1 (wrap64 ((rd l0 x4_1) +1)))=j_:=⟨_,rfl⟩;(first|rw[hji4]at H|simp only[hji4]at H);have hji4_:(if x3_1< (wrap64 ((rd l0 x4_1) +1))then(wrap64 ((rd l0 x4_1) +1))else x3_1)=ji4:=hji4;have H':=Aside0.mk H;clear H;have p308:0≤(x4_1:Int):=dQ;have q308:x4_1< (l0.length:Int):=dQ;obtain⟨ad308,e308,hx308_0⟩:=Kd.at_int HR0.out x4_1 p308 q308;cases e308;replace hx308_0:=cE HB.out hx308_0;replace p308:=eq_true p308;replace q308:=eq_true q308;go_wp2
    go_roundg k1
    case measure=>have:=HK1.out;omega
    case rel=>exact⟨(ji4),(wrap64 (x4_1+1)),(by first|rfl| (simp;done) | (simp only[←hji4] <;>(first|rfl|simp)) | (simp[*];done)),eS,H',⟨by have:=HK1.out;omega⟩,⟨bQ⟩⟩
   ·rw[if_neg c2]at H;have c2b0:=decide_eq_false c2;clear c2;obtain rfl:=Option.some.inj H;go_wp2
    go_ret;exact⟨eQ,bQ⟩
def fluxionref02_good.f(l0:List Int):Option (Bool):=if(l0.length:Int)≤128 then(if(l0.length:Int)=0 then(some true)else(if 0≤(wrap64 ((l0.length:Int) - 1))then(if(wrap64 ((l0.length:Int) - 1))< (l0.length:Int)then(some ((rd l0 (wrap64 ((l0.length:Int) - 1))) !=0))else(none))else(none)))else(some false)
theorem fluxionref02_good.calls(A0:Option Addr)(c0:Nat)(l0:List Int)(r:Bool)(w:World)(hr0:Kd.C (Kd.int .u32) w A0 l0.length l0)(hc0:l0.length≤c0)(h:fluxionref02_good.f l0=some r):
  Calls Tryz.prog 71 #[.slice A0 l0.length c0] w fun e w'=>e= .returned (.bool r)∧Drawn0 w w':=by
 have HR0:=Aside0.mk hr0;have HC0:=Aside0.mk hc0;clear hr0 hc0;have H:=h;clear h;unfold fluxionref02_good.f at H;by_cases c2:(l0.length:Int)≤128
 ·rw[if_pos c2]at H;have c2b0:=decide_eq_true c2;have c2b1:decide (l0.length≤128)=true:=decide_eq_true (by omega);clear c2;by_cases c3:(l0.length:Int)=0
  ·rw[if_pos c3]at H;have c3b0:=beq_iff_eq.mpr c3;have c3b1:=bne_eq_false_iff_eq.mpr c3;clear c3;obtain rfl:=Option.some.inj H;go_enter Tryz.func71,Tryz.ntmps71
   go_wp2
   go_ret;exact⟨by first|rfl| (simp;done) | (simp[*];done),by repeat(first|exact Drawn0.refl _|apply Drawn0.step)⟩
  ·rw[if_neg c3]at H;have c3b0:=beq_eq_false_iff_ne.mpr c3;have c3b1:=bne_iff_ne.mpr c3;have c3b2: ¬ (l0= []):=fun h_=>c3 (by rw[h_];rfl)
   obtain⟨ji4,hji4⟩: ∃j_:Int,(wrap64 ((l0.length:Int) - 1))=j_:=⟨_,rfl⟩;(first|rw[hji4]at H|simp only[hji4]at H);have hji4w:(IntKind.i64.wrap ((l0.length:Int) - 1))=ji4:=(i64_w _).trans hji4;replace H:=iN H;obtain⟨c5,H⟩:=H;have c5b0:=decide_eq_true c5;clear c5;replace H:=iN H;obtain⟨c6,H⟩:=H;have c6b0:=decide_eq_true c6;clear c6;obtain rfl:=Option.some.inj H;have p309:0≤((ji4):Int):=dQ;have q309:(ji4)< (l0.length:Int):=dQ;obtain⟨ad309,e309,hx309_0⟩:=Kd.at_int HR0.out (ji4) p309 q309;cases e309;replace p309:=eq_true p309;replace q309:=eq_true q309;go_enter Tryz.func71,Tryz.ntmps71
   go_wp2
   go_ret;exact⟨by first|rfl| (simp;done) | (simp only[←hji4] <;>(first|rfl|simp)) | (simp[*];done),by repeat(first|exact Drawn0.refl _|apply Drawn0.step)⟩
 ·rw[if_neg c2]at H;have c2b0:=decide_eq_false c2;have c2b1:decide (l0.length≤128)=false:=decide_eq_false (by omega);clear c2;obtain rfl:=Option.some.inj H;go_enter Tryz.func71,Tryz.ntmps71
  go_wp2
  go_ret;exact⟨by first|rfl| (simp;done) | (simp[*];done),by repeat(first|exact Drawn0.refl _|apply Drawn0.step)⟩
def fluxionref01_short.l0:Nat→List Int→Int→Option (List Int)
 |0,_,_=>none
 |k+1,x0,x3=>if x3 >0 then(if 0≤(wrap64 (x3 - 1))then(if(wrap64 (x3 - 1))< (x0.length:Int)then(if(rd x0 (wrap64 (x3 - 1)))=0 then(fluxionref01_short.l0 k x0 (wrap64 (x3 - 1)))else(if 0≤x3 then(if x3≤(x0.length:Int)then(some (x0.take (x3:Int).toNat))else(none))else(none)))else(none))else(none))else(if 0≤x3 then(if x3≤(x0.length:Int)then(some (x0.take (x3:Int).toNat))else(none))else(none))
def fluxionref01_short.f(k:Nat)(l0:List Int):Option (List Int):=fluxionref01_short.l0 k l0 (l0.length:Int)
theorem fluxionref01_short.calls(k:Nat)(P0_:Nat→Prop)(u9000_:Value)(l0:List Int)(r:List Int)(w0 w:World)(hB:Below w0.heap.size w0 w)(ho0:Kd.R (Kd.int .u32) 60 w w0.heap.size P0_ u9000_ l0)(h:fluxionref01_short.f k l0=some r):
  Calls Tryz.prog 98 #[u9000_] w fun e w'=> ∃v0_:Value,e= .returned (v0_)∧Kd.R (Kd.int .u32) 60 w' w0.heap.size (fun k_=>(P0_ k_∨w.heap.size≤k_)) v0_ r∧Below w0.heap.size w0 w'∧Kept w w' (fun k_=>P0_ k_):=by
 have HO0:=Aside0.mk (show Kd.R (Kd.int .u32) 60 w w0.heap.size (fun k_=>(P0_ k_∨w.heap.size≤k_)) u9000_ l0 from Kd.R_mono ho0 (fun k_ hk=>(.inl hk)));have HK:=Aside0.mk (Kept.refl w (fun k_=>P0_ k_));have HW0:=Aside0.mk hB.size;have HB:=Aside0.mk hB;clear hB;have H:=h;clear h;unfold fluxionref01_short.f at H;have H':=Aside0.mk H;clear H;obtain⟨Ao2,co2,eo2⟩:=Kd.R_slice HO0.out;subst eo2;go_enter Tryz.func98,Tryz.ntmps98
 go_wp2
 go_loopg [3] k (fun kq v3 w'=> ∃ (x3_1:Int),v3= .int .i64 x3_1∧Aside0 (fluxionref01_short.l0 kq l0 x3_1=some r)∧Aside0 (kq≤k)∧Aside0 (Kd.R (Kd.int .u32) 60 w' w0.heap.size (fun k_=>(P0_ k_∨w.heap.size≤k_)) (.slice Ao2 l0.length co2) l0)∧Aside0 (Kept w w' (fun k_=>P0_ k_))∧Aside0 (Below w0.heap.size w0 w'))
 case atStart=>exact⟨((l0.length:Int)),eS,H',⟨Nat.le_refl _⟩,⟨rX (h:=HO0.out)⟩,⟨by repeat(first| (with_reducible first|exact HK.out|apply Kept.alloc|apply Kept.drewN|apply Kept.drew) |exact HK.out)⟩,⟨bQ⟩⟩
 case round=>
  clear H';(try clear p2);obtain⟨x3_1,rfl,HA,HK1,HO_0,HK,HB⟩:=hrel;cases gk with
  |zero=>exact absurd HA.out (by simp[fluxionref01_short.l0])
  |succ k1=>
   have H:=HA.out;clear HA;simp only[fluxionref01_short.l0]at H;by_cases c3:x3_1 >0
   ·rw[if_pos c3]at H;have c3b0:=decide_eq_true c3;clear c3;obtain⟨ji4,hji4⟩: ∃j_:Int,(wrap64 (x3_1 - 1))=j_:=⟨_,rfl⟩;(first|rw[hji4]at H|simp only[hji4]at H);have hji4w:(IntKind.i64.wrap (x3_1 - 1))=ji4:=(i64_w _).trans hji4;replace H:=iN H;obtain⟨c5,H⟩:=H;have c5b0:=decide_eq_true c5;clear c5;replace H:=iN H;obtain⟨c6,H⟩:=H;have c6b0:=decide_eq_true c6;clear c6;by_cases c7:(rd l0 (ji4))=0
    ·rw[if_pos c7]at H;have c7b0:=beq_iff_eq.mpr c7;have c7b1:=bne_eq_false_iff_eq.mpr c7;clear c7;have H':=Aside0.mk H;clear H;have p310:0≤((ji4):Int):=dQ;have q310:(ji4)< (l0.length:Int):=dQ;obtain⟨ad310,e310,hx310_0⟩:=Kd.at_int (Kd.R_reads' HO_0.out).2.2 (ji4) p310 q310;cases e310;replace p310:=eq_true p310;replace q310:=eq_true q310;go_wp2
     go_roundg k1
     case measure=>have:=HK1.out;omega
     case rel=>exact⟨(ji4),(by first|rfl| (simp;done) | (simp only[←hji4] <;>(first|rfl|simp)) | (simp[*];done)),H',⟨by have:=HK1.out;omega⟩,⟨rX (h:=HO_0.out)⟩,⟨by repeat(first| (with_reducible first|exact HK.out|apply Kept.alloc|apply Kept.drewN|apply Kept.drew) |exact HK.out)⟩,⟨bQ⟩⟩
    ·rw[if_neg c7]at H;have c7b0:=beq_eq_false_iff_ne.mpr c7;have c7b1:=bne_iff_ne.mpr c7;replace H:=iN H;obtain⟨c8,H⟩:=H;have c8b0:=eq_true c8;have c8b1:=decide_eq_true c8;clear c8;replace H:=iN H;obtain⟨c9,H⟩:=H;have c9b0:=eq_true c9;have c9b1:=decide_eq_true c9;clear c9;obtain⟨y311,hy311⟩: ∃y_:List Int,y_=(l0.take (x3_1:Int).toNat):=⟨_,rfl⟩;(first|replace H:=by_ hy311 H|rw[←hy311]at H);(try dsimp only at H);have Ny311:=Aside0.mk hy311;clear hy311;obtain rfl:=Option.some.inj H;have p310:0≤((ji4):Int):=dQ;have q310:(ji4)< (l0.length:Int):=dQ;obtain⟨ad310,e310,hx310_0⟩:=Kd.at_int (Kd.R_reads' HO_0.out).2.2 (ji4) p310 q310;cases e310;replace p310:=eq_true p310;replace q310:=eq_true q310;have q10:(x3_1:Int)≤((l0.length:Int):Int):=dQ;obtain⟨i010,hi010,_,hsz10,_⟩:=info_parts info60;have hcut10:=cut_to (P:=Tryz.prog) 57 60 .i64 Tryz.underlying57 hi010 (some ad310) l0.length co2 x3_1 (dQ) q10 (Kd.R_reads' HO_0.out).2.1;have hr10:=Kd.R_take (m:=(x3_1:Int).toNat) HO_0.out (by omega);have hy10:y311.length=(x3_1:Int).toNat:=(by rw[Ny311.out,List.length_take];omega);rw[←Ny311.out]at hr10;rw[←hy10]at hr10 hcut10;clear hy10 hi010 hsz10 HO_0;have HO313:=Aside0.mk hr10;clear hr10;replace q10:=eq_true q10;go_wp2
     go_ret;exact⟨_,by first|rfl| (simp[errW_none,errW_some] <;>rfl) | (simp only[←hji4];first|rfl| (simp[errW_none,errW_some] <;>rfl)) | (simp[*,errW_none,errW_some] <;>rfl),rX (h:=HO313.out),bQ,by repeat(first| (with_reducible first|exact HK.out|apply Kept.alloc|apply Kept.drewN|apply Kept.drew) |exact HK.out)⟩
   ·rw[if_neg c3]at H;have c3b0:=decide_eq_false c3;clear c3;replace H:=iN H;obtain⟨c11,H⟩:=H;have c11b0:=eq_true c11;have c11b1:=decide_eq_true c11;clear c11;replace H:=iN H;obtain⟨c12,H⟩:=H;have c12b0:=eq_true c12;have c12b1:=decide_eq_true c12;clear c12;obtain⟨y314,hy314⟩: ∃y_:List Int,y_=(l0.take (x3_1:Int).toNat):=⟨_,rfl⟩;(first|replace H:=by_ hy314 H|rw[←hy314]at H);(try dsimp only at H);have Ny314:=Aside0.mk hy314;clear hy314;obtain rfl:=Option.some.inj H;have q13:(x3_1:Int)≤((l0.length:Int):Int):=dQ;obtain⟨i013,hi013,_,hsz13,_⟩:=info_parts info60;have hcut13:=cut_to (P:=Tryz.prog) 57 60 .i64 Tryz.underlying57 hi013 Ao2 l0.length co2 x3_1 (dQ) q13 (Kd.R_reads' HO_0.out).2.1;have hr13:=Kd.R_take (m:=(x3_1:Int).toNat) HO_0.out (by omega);have hy13:y314.length=(x3_1:Int).toNat:=(by rw[Ny314.out,List.length_take];omega);rw[←Ny314.out]at hr13;rw[←hy13]at hr13 hcut13;clear hy13 hi013 hsz13 HO_0;have HO316:=Aside0.mk hr13;clear hr13;replace q13:=eq_true q13;go_wp2
    go_ret;exact⟨_,eQ,rX (h:=HO316.out),bQ,by repeat(first| (with_reducible first|exact HK.out|apply Kept.alloc|apply Kept.drewN|apply Kept.drew) |exact HK.out)⟩
def fluxionref01_half.l0:Nat→List Int→List Int→Int→Int→Option (List Int)
 |0,_,_,_,_=>none
 |k+1,x0,x3,x4,x5=>if x5≥0 then(if 0≤x5 then(if x5< (x0.length:Int)then(if x5< (x3.length:Int)then(fluxionref01_half.l0 k x0 (x3.set (x5:Int).toNat (Go.bits .or .u32 ((rd x0 x5) / 2) ((x4 * 2147483648) % 4294967296))) (Int.tmod (rd x0 x5) 2) (wrap64 (x5 - 1)))else(none))else(none))else(none))else((fluxionref01_short.f k x3).bind fun t323=>(some t323))
def fluxionref01_half.f(k:Nat)(l0:List Int):Option (List Int):=if 0≤(l0.length:Int)then(if((l0.length:Int):Int).toNat≤70368744177664 then(fluxionref01_half.l0 k l0 (List.replicate ((l0.length:Int):Int).toNat 0) 0 (wrap64 ((l0.length:Int) - 1)))else(none))else(none)
theorem fluxionref01_half.calls(k:Nat)(A0:Option Addr)(c0:Nat)(l0:List Int)(r:List Int)(w:World)(hr0:Kd.C (Kd.int .u32) w A0 l0.length l0)(hc0:l0.length≤c0)(h:fluxionref01_half.f k l0=some r):
  Calls Tryz.prog 92 #[.slice A0 l0.length c0] w fun e w'=> ∃v0_:Value,e= .returned (v0_)∧Kd.R (Kd.int .u32) 60 w' w.heap.size (fun _=>True) v0_ r∧Below w.heap.size w w':=by
 have HR0:=Aside0.mk hr0;have HC0:=Aside0.mk hc0;clear hr0 hc0;have HB:=Aside0.mk (Below.refl w.heap.size w);have H:=h;clear h;unfold fluxionref01_half.f at H;replace H:=iN H;obtain⟨c2,H⟩:=H;have c2b0:=eq_true c2;have c2b1:=decide_eq_true c2;clear c2;replace H:=iN H;obtain⟨c3,H⟩:=H;have c3b0:=eq_true c3;have c3b1:=decide_eq_true c3;clear c3;obtain⟨y317,hy317⟩: ∃y_:List Int,y_=(List.replicate ((l0.length:Int):Int).toNat 0):=⟨_,rfl⟩;(first|replace H:=by_ hy317 H|rw[←hy317]at H);(try dsimp only at H);have Ny317:=Aside0.mk hy317;clear hy317;have H':=Aside0.mk H;clear H;go_enter Tryz.func92,Tryz.ntmps92
 go_wp2_with (first| (refine gD 8 ?_;refine Kd.R_make (Kd.int .u32) _ 60 rfl (N:=8) rfl 57 _ _ rfl (l0.length:Int) rfl rfl Tryz.underlying57 (.int .u32 0) 4 info60 rfl (by decide) (by omega) 0 (ok:=fun _=>True) (okp:=fun _=>True) rfl (fun _ hk=>hk) trivial (dQ) (Nat.le_trans (Nat.mul_le_mul_right _ (dQ:(l0.length:Int).toNat≤70368744177664)) (by omega)) (Below.refl _ _) (Nat.le_refl _) ?_;intro v318 w4 ho5 hb hg_ hnew_;clear hg_ hnew_;(first|rw[←Ny317.out]at ho5| (simp only[Int.reduceToNat]at ho5;rw[←Ny317.out]at ho5));have HO319:=rL w ho5;replace HB:=hsQ hb;clear hb ho5))
 go_loopg [4,5] k (fun kq v4 v5 w'=> ∃ (x3_1:List Int) (x4_1:Int) (x5_1:Int),v4= .int .u32 x4_1∧v5= .int .i64 x5_1∧Aside0 (fluxionref01_half.l0 kq l0 x3_1 x4_1 x5_1=some r)∧Aside0 (kq≤k)∧Aside0 (Kd.R (Kd.int .u32) 60 w' w.heap.size (fun _=>True) v318 x3_1)∧Aside0 (Below w.heap.size w w'))
 case atStart=>exact⟨(y317),(0),(wrap64 ((l0.length:Int) - 1)),eS,eS,H',⟨Nat.le_refl _⟩,⟨rX (h:=HO319.out)⟩,⟨bQ⟩⟩
 case round=>
  clear H';(try clear c2);(try clear c2b0);(try clear c2b1);(try clear p2);(try clear c3);(try clear c3b0);(try clear c3b1);obtain⟨x3_1,x4_1,x5_1,rfl,rfl,HA,HK1,HO_3,HB⟩:=hrel;cases gk with
  |zero=>exact absurd HA.out (by simp[fluxionref01_half.l0])
  |succ k1=>
   have H:=HA.out;clear HA;simp only[fluxionref01_half.l0]at H;by_cases c6:x5_1≥0
   ·rw[if_pos c6]at H;have c6b0:=decide_eq_true c6;clear c6;replace H:=iN H;obtain⟨c7,H⟩:=H;have c7b0:=decide_eq_true c7;clear c7;replace H:=iN H;obtain⟨c8,H⟩:=H;have c8b0:=decide_eq_true c8;clear c8;replace H:=iN H;obtain⟨c9,H⟩:=H;have c9b0:=decide_eq_true c9;clear c9;obtain⟨y321,hy321⟩: ∃y_:List Int,y_=(x3_1.set (x5_1:Int).toNat (Go.bits .or .u32 ((rd l0 x5_1) / 2) ((x4_1 * 2147483648) % 4294967296))):=⟨_,rfl⟩;(first|replace H:=by_ hy321 H|rw[←hy321]at H);(try dsimp only at H);have Ny321:=Aside0.mk hy321;clear hy321;have H':=Aside0.mk H;clear H;have p320:0≤(x5_1:Int):=dQ;have q320:x5_1< (l0.length:Int):=dQ;obtain⟨ad320,e320,hx320_0⟩:=Kd.at_int HR0.out x5_1 p320 q320;cases e320;replace hx320_0:=cE HB.out hx320_0;replace p320:=eq_true p320;replace q320:=eq_true q320;have p10:0≤(x5_1:Int):=dQ;have q10:(x5_1:Int)< ((x3_1.length:Int):Int):=dQ;obtain⟨go10,co10,eo10,gb10,gl10,cl10,HG10⟩:=Kd.R_form HO_3.out (by omega);(first|cases eo10| (injection eo10 with ea_ en_ ec_;(first|subst ea_| (injection ea_ with ea_;subst ea_));subst ec_;clear en_));have GB10:=Aside0.mk gb10;have GG10:=Aside0.mk HG10;clear gb10 gl10 HG10;obtain⟨hx10_0,hf10_0⟩:=Kd.R_celln 0 HO_3.out (x5_1:Int) p10 q10;replace p10:=eq_true p10;replace q10:=eq_true q10;have HP11:=Kd.R_putg HO_3.out (x5_1:Int) (Go.bits .or .u32 ((rd l0 x5_1) / 2) ((x4_1 * 2147483648) % 4294967296));go_wp2_with (first| ((with_reducible refine gate_store (t:=60) (p:=26) rfl ?_);refine store_event (t:=60) (p:=26) (v:=?vo_w12) (w1:=(wr.setCell ⟨go10,(x5_1:Int).toNat,none⟩ (.int .u32 (Go.bits .or .u32 ((rd l0 x5_1) / 2) ((x4_1 * 2147483648) % 4294967296))))) ?hg ?ho ?hn ?hr ?_;(case ho=>rfl);(case hg=>rfl);(case hn=>rfl);(case hr=>first| (go_simp;done) | (go_simp;rfl));intro w12 hw;have hg:wr.grownBy w12 (some go10):=(by rw[hw];exact HP11.2);have hp_:Kd.R (Kd.int .u32) 60 w12 w.heap.size (fun _=>True) (.slice (some ⟨go10,0,none⟩) x3_1.length co10) y321:=(by rw[hw,Ny321.out];exact HP11.1);clear HP11;replace HO_3:=Aside0.mk hp_;replace HB:=Aside0.mk (by rw[hw];exact below_set (HB.out) GB10.out:Below w.heap.size w w12);clear hg hw hp_;have p322:0≤(x5_1:Int):=dQ;have q322:x5_1< (l0.length:Int):=dQ;obtain⟨ad322,e322,hx322_0⟩:=Kd.at_int HR0.out x5_1 p322 q322;obtain rfl:ad320=ad322:=(by injection e322);replace hx322_0:=cE HB.out hx322_0;replace p322:=eq_true p322;replace q322:=eq_true q322))
    go_roundg k1
    case measure=>have:=HK1.out;omega
    case rel=>exact⟨(y321),(Int.tmod (rd l0 x5_1) 2),(wrap64 (x5_1 - 1)),eS,eS,H',⟨by have:=HK1.out;omega⟩,⟨rX (h:=HO_3.out)⟩,⟨bQ⟩⟩
   ·rw[if_neg c6]at H;have c6b0:=decide_eq_false c6;clear c6;obtain⟨t323,A13,H⟩:=bO H;(try dsimp only at H);obtain rfl:=Option.some.inj H;obtain⟨Ao14,co14,eo14⟩:=Kd.R_slice HO_3.out;subst eo14;go_wp2_with (first| (refine gF 98 ?_;refine gl_ (some 33) Tryz.func98 #[.slice Ao14 x3_1.length co14] ?_;(with_reducible refine(fluxionref01_short.calls k1 (fun k_=>some k_=(.slice Ao14 x3_1.length co14:Value).ownBlock) (.slice Ao14 x3_1.length co14) x3_1 t323 w _ ?side1 ?side2 A13.out).mono ?_);(case side1=>repeat(first| (with_reducible first|exact HB.out|apply below_alloc|apply pw_below_drewN|apply below_drew1) |exact HB.out));(case side2=>exact Kd.R_tight rfl HO_3.out);rintro e w15 ⟨v324,rfl,ho0,hb,hkp⟩;refine⟨_,rfl,?_⟩;have HO325:=Aside0.mk (Kd.R_mono (ok':=fun k_=>True) ho0 (fun k_ hk_=>trivial));replace HB:=Aside0.mk hb;clear HO_3;(try clear hb);(try clear hkp);(try clear ho0)))
    go_ret;exact⟨_,eQ,rX (h:=HO325.out),bQ⟩
def fluxionref01_Compare.l0:Nat→List Int→List Int→Int→Option (Int)
 |0,_,_,_=>none
 |k+1,x0,x1,x5=>if x5≥0 then(if 0≤x5 then(if x5< (x0.length:Int)then(if x5< (x1.length:Int)then(if(rd x0 x5)< (rd x1 x5)then(some (-1))else(if(rd x0 x5) >(rd x1 x5)then(some 1)else(fluxionref01_Compare.l0 k x0 x1 (wrap64 (x5 - 1)))))else(none))else(none))else(none))else(some 0)
def fluxionref01_Compare.f(k:Nat)(l0:List Int)(l1:List Int):Option (Int):=if(l0.length:Int)=(l1.length:Int)then(fluxionref01_Compare.l0 k l0 l1 (wrap64 ((l0.length:Int) - 1)))else(if(l0.length:Int)< (l1.length:Int)then(some (-1))else(some 1))
theorem fluxionref01_Compare.calls(k:Nat)(A0:Option Addr)(c0:Nat)(l0:List Int)(A1:Option Addr)(c1:Nat)(l1:List Int)(r:Int)(w:World)(hr0:Kd.C (Kd.int .u32) w A0 l0.length l0)(hc0:l0.length≤c0)(hr1:Kd.C (Kd.int .u32) w A1 l1.length l1)(hc1:l1.length≤c1)(h:fluxionref01_Compare.f k l0 l1=some r):
  Calls Tryz.prog 93 #[.slice A0 l0.length c0,.slice A1 l1.length c1] w fun e w'=>e= .returned (.int .i64 r)∧Drawn0 w w':=by
 have HR0:=Aside0.mk hr0;have HC0:=Aside0.mk hc0;clear hr0 hc0;have HR1:=Aside0.mk hr1;have HC1:=Aside0.mk hc1;clear hr1 hc1;have H:=h;clear h;unfold fluxionref01_Compare.f at H;by_cases c3:(l0.length:Int)=(l1.length:Int)
 ·rw[if_pos c3]at H;have c3b0:=beq_iff_eq.mpr c3;have c3b1:=bne_eq_false_iff_eq.mpr c3;have c3b2:(l0.length==l1.length)=true:=by first|simpa using c3| (simp at c3 ⊢;omega)
  clear c3;have H':=Aside0.mk H;clear H;go_enter Tryz.func93,Tryz.ntmps93
  go_wp2
  repeat(go_quiet (fail);try go_wp2)
  go_loopg [5] k (fun kq v5 w'=> ∃ (x5_1:Int),v5= .int .i64 x5_1∧Aside0 (fluxionref01_Compare.l0 kq l0 l1 x5_1=some r)∧Aside0 (kq≤k)∧Drawn0 w w')
  case atStart=>exact⟨(wrap64 ((l0.length:Int) - 1)),eS,H',⟨Nat.le_refl _⟩,by repeat(first|exact Drawn0.refl _|apply Drawn0.step)⟩
  case round=>
   clear H';(try clear c1);(try clear p2);(try clear c3);(try clear c3b0);(try clear c3b1);(try clear c3b2);obtain⟨x5_1,rfl,HA,HK1,⟨m1,rfl⟩⟩:=hrel;cases gk with
   |zero=>exact absurd HA.out (by simp[fluxionref01_Compare.l0])
   |succ k1=>
    have H:=HA.out;clear HA;simp only[fluxionref01_Compare.l0]at H;by_cases c4:x5_1≥0
    ·rw[if_pos c4]at H;have c4b0:=decide_eq_true c4;clear c4;replace H:=iN H;obtain⟨c5,H⟩:=H;have c5b0:=decide_eq_true c5;clear c5;replace H:=iN H;obtain⟨c6,H⟩:=H;have c6b0:=decide_eq_true c6;clear c6;replace H:=iN H;obtain⟨c7,H⟩:=H;have c7b0:=decide_eq_true c7;clear c7;by_cases c8:(rd l0 x5_1)< (rd l1 x5_1)
     ·rw[if_pos c8]at H;have c8b0:=decide_eq_true c8;clear c8;obtain rfl:=Option.some.inj H;have p326:0≤(x5_1:Int):=dQ;have q326:x5_1< (l0.length:Int):=dQ;obtain⟨ad326,e326,hx326_0⟩:=Kd.at_int HR0.out x5_1 p326 q326;cases e326;replace p326:=eq_true p326;replace q326:=eq_true q326;have p327:0≤(x5_1:Int):=dQ;have q327:x5_1< (l1.length:Int):=dQ;obtain⟨ad327,e327,hx327_0⟩:=Kd.at_int HR1.out x5_1 p327 q327;cases e327;replace p327:=eq_true p327;replace q327:=eq_true q327;go_wp2
      repeat(go_quiet (fail);try go_wp2)
      go_ret;exact⟨by first|rfl| (simp;done) | (simp[*];done),by repeat(first|exact Drawn0.refl _|apply Drawn0.step)⟩
     ·rw[if_neg c8]at H;have c8b0:=decide_eq_false c8;clear c8;by_cases c9:(rd l0 x5_1) >(rd l1 x5_1)
      ·rw[if_pos c9]at H;have c9b0:=decide_eq_true c9;clear c9;obtain rfl:=Option.some.inj H;have p326:0≤(x5_1:Int):=dQ;have q326:x5_1< (l0.length:Int):=dQ;obtain⟨ad326,e326,hx326_0⟩:=Kd.at_int HR0.out x5_1 p326 q326;cases e326;replace p326:=eq_true p326;replace q326:=eq_true q326;have p327:0≤(x5_1:Int):=dQ;have q327:x5_1< (l1.length:Int):=dQ;obtain⟨ad327,e327,hx327_0⟩:=Kd.at_int HR1.out x5_1 p327 q327;cases e327;replace p327:=eq_true p327;replace q327:=eq_true q327;have p328:0≤(x5_1:Int):=dQ;have q328:x5_1< (l0.length:Int):=dQ;obtain⟨ad328,e328,hx328_0⟩:=Kd.at_int HR0.out x5_1 p328 q328;obtain rfl:ad326=ad328:=(by injection e328);replace p328:=eq_true p328;replace q328:=eq_true q328;have p329:0≤(x5_1:Int):=dQ;have q329:x5_1< (l1.length:Int):=dQ;obtain⟨ad329,e329,hx329_0⟩:=Kd.at_int HR1.out x5_1 p329 q329;obtain rfl:ad327=ad329:=(by injection e329);replace p329:=eq_true p329;replace q329:=eq_true q329;go_wp2
       repeat(go_quiet (fail);try go_wp2)
       go_ret;exact⟨by first|rfl| (simp;done) | (simp[*];done),by repeat(first|exact Drawn0.refl _|apply Drawn0.step)⟩
      ·rw[if_neg c9]at H;have c9b0:=decide_eq_false c9;clear c9;have H':=Aside0.mk H;clear H;have p326:0≤(x5_1:Int):=dQ;have q326:x5_1< (l0.length:Int):=dQ;obtain⟨ad326,e326,hx326_0⟩:=Kd.at_int HR0.out x5_1 p326 q326;cases e326;replace p326:=eq_true p326;replace q326:=eq_true q326;have p327:0≤(x5_1:Int):=dQ;have q327:x5_1< (l1.length:Int):=dQ;obtain⟨ad327,e327,hx327_0⟩:=Kd.at_int HR1.out x5_1 p327 q327;cases e327;replace p327:=eq_true p327;replace q327:=eq_true q327;have p328:0≤(x5_1:Int):=dQ;have q328:x5_1< (l0.length:Int):=dQ;obtain⟨ad328,e328,hx328_0⟩:=Kd.at_int HR0.out x5_1 p328 q328;obtain rfl:ad326=ad328:=(by injection e328);replace p328:=eq_true p328;replace q328:=eq_true q328;have p329:0≤(x5_1:Int):=dQ;have q329:x5_1< (l1.length:Int):=dQ;obtain⟨ad329,e329,hx329_0⟩:=Kd.at_int HR1.out x5_1 p329 q329;obtain rfl:ad327=ad329:=(by injection e329);replace p329:=eq_true p329;replace q329:=eq_true q329;go_wp2
       repeat(go_quiet (fail);try go_wp2)
       go_roundg k1
       case measure=>have:=HK1.out;omega
       case rel=>exact⟨(wrap64 (x5_1 - 1)),eS,H',⟨by have:=HK1.out;omega⟩,by repeat(first|exact Drawn0.refl _|apply Drawn0.step)⟩
    ·rw[if_neg c4]at H;have c4b0:=decide_eq_false c4;clear c4;obtain rfl:=Option.some.inj H;go_wp2
     repeat(go_quiet (fail);try go_wp2)
     go_ret;exact⟨by first|rfl| (simp;done) | (simp[*];done),by repeat(first|exact Drawn0.refl _|apply Drawn0.step)⟩
 ·rw[if_neg c3]at H;have c3b0:=beq_eq_false_iff_ne.mpr c3;have c3b1:=bne_iff_ne.mpr c3;have c3b2:(l0.length==l1.length)=false:=by first|simpa using c3| (simp at c3 ⊢;omega)
  by_cases c10:(l0.length:Int)< (l1.length:Int)
  ·rw[if_pos c10]at H;have c10b0:=decide_eq_true c10;have c10b1:decide (l0.length< l1.length)=true:=decide_eq_true (Int.ofNat_lt.mp c10);clear c10;obtain rfl:=Option.some.inj H;go_enter Tryz.func93,Tryz.ntmps93
   go_wp2
   repeat(go_quiet (fail);try go_wp2)
   go_ret;exact⟨by first|rfl| (simp;done) | (simp[*];done),by repeat(first|exact Drawn0.refl _|apply Drawn0.step)⟩
  ·rw[if_neg c10]at H;have c10b0:=decide_eq_false c10;have c10b1:decide (l0.length< l1.length)=false:=decide_eq_false (fun h=>c10 (Int.ofNat_lt.mpr h));clear c10;obtain rfl:=Option.some.inj H;go_enter Tryz.func93,Tryz.ntmps93
   go_wp2
   repeat(go_quiet (fail);try go_wp2)
   go_ret;exact⟨by first|rfl| (simp;done) | (simp[*];done),by repeat(first|exact Drawn0.refl _|apply Drawn0.step)⟩
end Go.Proofs.YtjjbondlcjnaiaaGreat.PSparseSpreads
