-- written by a program of this session, after the kit's print
import Derived.Test.YtjjbondlcjnaiaaGreatPSparseOwnx20
namespace Go.Proofs.YtjjbondlcjnaiaaGreat.PSparseOwn
open Go.RowKit Go.Proofs.YtjjbondlcjnaiaaGreatW.PrintWords Go.Proofs.YtjjbondlcjnaiaaGreatW.PrintLast Go.Proofs.YtjjbondlcjnaiaaGreatW.PrintMore
set_option maxHeartbeats 8000000
set_option maxRecDepth 100000
attribute [local go_sem] max2_int min2_int max_two min_two max_three min_three max_four min_four
set_option linter.unusedVariables false
set_option linter.unusedSimpArgs false
def frac_Add.f(k:Nat)(a0:Int)(a1:Bool)(l2 l3:List Int)(b0:Int)(b1:Bool)(m2 m3:List Int):Option (Int×Bool×List Int×List Int×Int):=
 (frac_IsRat.f k a0 a1 l2 l3).bind fun t=>if t=true then((frac_IsRat.f k b0 b1 m2 m3).bind fun t=>if t=true then((frac_least.f k [a0,b0]).bind fun e=>if e=0 then((frac_sum.f k a0 a1 l2 l3 b0 b1 m2 m3).bind fun r=>some (r.1,r.2.1,r.2.2.1,r.2.2.2,0))else some (e,false,[],[],0))else none)else none
theorem rat_ret2{w w7 w8:World}{e b1 b2 g:Nat}{v2 v3:Value}{x y:List Int}{r1 r5:Int}{r2:Bool}(h2:Kd.V (Kd.int .u32) e w8 b1 (fun k=>w7.heap.size≤k) v2 x)(h3:Kd.V (Kd.int .u32) e w8 b2 (fun k=>w7.heap.size≤k) v3 y)(hb:Below w.heap.size w w8)(hg:w.heap.size≤g)(hg7:g< w7.heap.size)(h7:w.heap.size≤w7.heap.size):
  ∃u2 u3:Value,Ending.returned (.tuple #[.agg #[.int .i64 r1,.bool r2,v2,v3],.int .i64 r5])= .returned (.tuple #[.agg #[.int .i64 r1,.bool r2,u2,u3],.int .i64 r5])∧Kd.V (Kd.int .u32) e ((((w8.setCell ⟨g,0,none⟩ (.int .i64 r1)).setCell ⟨g,1,none⟩ (.bool r2)).setCell ⟨g,2,none⟩ v2).setCell ⟨g,3,none⟩ v3) w.heap.size (fun k=>w.heap.size≤k) u2 x∧Kd.V (Kd.int .u32) e ((((w8.setCell ⟨g,0,none⟩ (.int .i64 r1)).setCell ⟨g,1,none⟩ (.bool r2)).setCell ⟨g,2,none⟩ v2).setCell ⟨g,3,none⟩ v3) w.heap.size (fun k=>w.heap.size≤k) u3 y∧Below w.heap.size w ((((w8.setCell ⟨g,0,none⟩ (.int .i64 r1)).setCell ⟨g,1,none⟩ (.bool r2)).setCell ⟨g,2,none⟩ v2).setCell ⟨g,3,none⟩ v3):=by
 obtain⟨u2,u3,he,h⟩:=rat_ret (r1:=r1) (r2:=r2) h2 h3 hb hg hg7 h7;injection he with he
 exact⟨u2,u3,by rw[he],h⟩
theorem made_sum.calls(k:Nat)(a0:Int)(a1:Bool)(A2:Option Addr)(c2:Nat)(l2:List Int)(A3:Option Addr)(c3:Nat)(l3:List Int)(b0:Int)(b1:Bool)(B2:Option Addr)(d2:Nat)(m2:List Int)(B3:Option Addr)(d3:Nat)(m3:List Int)(r1:Int)(r2:Bool)(r3 r4:List Int)(r5:Int)(w:World)
  (ha2:Kd.C (Kd.int .u32) w A2 l2.length l2) (la2:l2.length≤c2) (ha3:Kd.C (Kd.int .u32) w A3 l3.length l3) (la3:l3.length≤c3) (hb2:Kd.C (Kd.int .u32) w B2 m2.length m2) (lb2:m2.length≤d2) (hb3:Kd.C (Kd.int .u32) w B3 m3.length m3) (lb3:m3.length≤d3)
  (h:frac_Add.f k a0 a1 l2 l3 b0 b1 m2 m3=some (r1,r2,r3,r4,r5)):
  Calls Tryz.prog 77 #[.agg #[.int .i64 a0,.bool a1,.slice A2 l2.length c2,.slice A3 l3.length c3],.agg #[.int .i64 b0,.bool b1,.slice B2 m2.length d2,.slice B3 m3.length d3],.func (.func 78) #[] #[]] w fun e w'=> ∃v2 v3:Value,e= .returned (.tuple #[.agg #[.int .i64 r1,.bool r2,v2,v3],.int .i64 r5])∧
   Kd.V (Kd.int .u32) 60 w' w.heap.size (fun k_=>w.heap.size≤k_) v2 r3∧Kd.V (Kd.int .u32) 60 w' w.heap.size (fun k_=>w.heap.size≤k_) v3 r4∧Below w.heap.size w w':=by
 have hu59:=Tryz.underlying59;have HA2:=Aside0.mk (And.intro ha2 la2);have HA3:=Aside0.mk (And.intro ha3 la3);have HC2:=Aside0.mk (And.intro hb2 lb2);have HC3:=Aside0.mk (And.intro hb3 lb3);clear ha2 ha3 hb2 hb3 la2 la3 lb2 lb3;unfold frac_Add.f at h;obtain⟨t,i1,h⟩:=Option.bind_eq_some_iff.1 h;split at h
 case isFalse=>cases h
 case isTrue ht=>
 subst ht;obtain⟨t,i2,h⟩:=Option.bind_eq_some_iff.1 h;split at h
 case isFalse=>cases h
 case isTrue ht=>
 subst ht;obtain⟨ev,i3,h⟩:=Option.bind_eq_some_iff.1 h;have I1:=Aside0.mk i1;have I2:=Aside0.mk i2;have I3:=Aside0.mk i3;have H:=Aside0.mk h;clear i1 i2 i3 h;go_enter Tryz.func77,Tryz.ntmps77
 go_wp2_with (first
  | (refine gD 3 ?_;refine bx_ 3 #[.int .i64 a0,.bool a1,.slice A2 l2.length c2,.slice A3 l3.length c3] 59 ?_;intro g1 hg w1 hbox hb;have G1:=Aside0.mk hg;have K1:=Aside0.mk hbox;have HB1:=Aside0.mk hb;clear hg hbox hb)
  | (refine gD 4 ?_;refine bx_ 4 #[.int .i64 b0,.bool b1,.slice B2 m2.length d2,.slice B3 m3.length d3] 59 ?_;intro g2 hg w2 hbox hb;have G2:=Aside0.mk hg;have K2:=Aside0.mk hbox;have HB2:=Aside0.mk hb;clear hg hbox hb)
  | (refine gD 6 ?_;refine bx_ 6 #[.int .i64 0,.bool false,.slice none 0 0,.slice none 0 0] 59 ?_;intro g3 hg w3 hbox hb;have G3:=Aside0.mk hg;have K3:=Aside0.mk hbox;have HB3:=Aside0.mk hb;clear hg hbox hb;have L1:=blk_lt K1.out;have L2:=blk_lt K2.out;have L3:=blk_lt K3.out;have S1:=HB1.out.size;have S2:=HB2.out.size;have S3:=HB3.out.size;have KK:=Aside0.mk (And.intro (blk_on (blk_on K1.out HB2.out L1) HB3.out (Nat.lt_of_lt_of_le L1 S2)) (And.intro (blk_on K2.out HB3.out L2) K3.out));have HBw:=Aside0.mk (HB1.out.trans ((HB2.out.trans (HB3.out.mono S2)).mono S1));have GG:=Aside0.mk (show w.heap.size≤g1∧w.heap.size≤g2∧w.heap.size≤g3∧g1< w3.heap.size∧g2< w3.heap.size∧g3< w3.heap.size∧g1≠g3∧g2≠g3 from by have:=G1.out;have:=G2.out;have:=G3.out;omega);clear L1 L2 L3 S1 S2 S3 K1 K2 K3 HB1 HB2 HB3 G1 G2 G3;obtain⟨x1,x2,x3,x4,x5,x6,x7,x8⟩:=c4Q KK.out.1))
 refine(frac_IsRat.calls k a0 a1 _ _ l2 _ _ l3 true _ (Kd.C_below HA2.out.1 HBw.out) HA2.out.2 (Kd.C_below HA3.out.1 HBw.out) HA3.out.2 I1.out).mono ?_;rintro e w4 ⟨rfl,hb4⟩;have KK4:=Aside0.mk (And.intro (blk_on KK.out.1 hb4 GG.out.2.2.2.1) (And.intro (blk_on KK.out.2.1 hb4 GG.out.2.2.2.2.1) (blk_on KK.out.2.2 hb4 GG.out.2.2.2.2.2.1)));have S4:=Aside0.mk hb4.size;have HBw4:=Aside0.mk (HBw.out.trans (hb4.mono HBw.out.size));clear hb4 x1 x2 x3 x4 x5 x6 x7 x8 KK;obtain⟨x1,x2,x3,x4,x5,x6,x7,x8⟩:=c4Q KK4.out.2.1;go_wp2_with fail
 refine(frac_IsRat.calls k b0 b1 _ _ m2 _ _ m3 true _ (Kd.C_below HC2.out.1 HBw4.out) HC2.out.2 (Kd.C_below HC3.out.1 HBw4.out) HC3.out.2 I2.out).mono ?_;rintro e w5 ⟨rfl,hb5⟩;have KK5:=Aside0.mk (And.intro (blk_on KK4.out.1 hb5 (Nat.lt_of_lt_of_le GG.out.2.2.2.1 S4.out)) (And.intro (blk_on KK4.out.2.1 hb5 (Nat.lt_of_lt_of_le GG.out.2.2.2.2.1 S4.out)) (blk_on KK4.out.2.2 hb5 (Nat.lt_of_lt_of_le GG.out.2.2.2.2.2.1 S4.out))));have S5:=Aside0.mk (Nat.le_trans S4.out hb5.size);have HBw5:=Aside0.mk (HBw4.out.trans (hb5.mono HBw4.out.size));clear hb5 x1 x2 x3 x4 x5 x6 x7 x8 KK4 S4 HBw4 HBw;obtain⟨x1,x2,x3,x4,x5,x6,x7,x8⟩:=c4Q KK5.out.1;obtain⟨y1,y2,y3,y4,y5,y6,y7,y8⟩:=c4Q KK5.out.2.1;go_wp2_with (first| (refine gD 22 ?_;refine li_ (Kd.int .i64) 28 22 ([a0,b0] :List Int) [.int .i64 a0,.int .i64 b0] (Reps.snoc (Reps.snoc (Reps.none _ _) (show Kd.M (Kd.int .i64) _ _ _ a0 [.int .i64 a0]from rfl) rfl) (show Kd.M (Kd.int .i64) _ _ _ b0 [.int .i64 b0]from rfl) rfl) ?_;intro v1 w6 ho hb _ _;obtain⟨A5,c5,rfl⟩:=Kd.R_slice ho;have HO6:=Aside0.mk ho;have HB6:=Aside0.mk hb;clear ho hb))
 refine(frac_least.calls k _ _ [a0,b0] ev _ (Kd.R_reads' HO6.out).2.2 (Kd.R_reads' HO6.out).2.1 I3.out).mono ?_;rintro e w' ⟨rfl,nd,rfl⟩;generalize hq_:World.drewN w6 nd=w7;have hb7:Below w5.heap.size w5 w7:=hq_▸pw_below_drewN HB6.out nd;have KK7:=Aside0.mk (And.intro (blk_on KK5.out.1 hb7 (Nat.lt_of_lt_of_le GG.out.2.2.2.1 S5.out)) (And.intro (blk_on KK5.out.2.1 hb7 (Nat.lt_of_lt_of_le GG.out.2.2.2.2.1 S5.out)) (blk_on KK5.out.2.2 hb7 (Nat.lt_of_lt_of_le GG.out.2.2.2.2.2.1 S5.out))));have S7:=Aside0.mk (Nat.le_trans S5.out hb7.size);have HB7:=Aside0.mk (HBw5.out.trans (hb7.mono HBw5.out.size));clear hq_ hb7 HO6 HB6 KK5 S5 HBw5 x1 x2 x3 x4 x5 x6 x7 x8 y1 y2 y3 y4 y5 y6 y7 y8;obtain⟨x1,x2,x3,x4,x5,x6,x7,x8⟩:=c4Q KK7.out.1;obtain⟨y1,y2,y3,y4,y5,y6,y7,y8⟩:=c4Q KK7.out.2.1;by_cases he:ev=0
 ·have h:=H.out;rw[if_pos he]at h;obtain⟨⟨s1,s2,s3,s4⟩,i4,h⟩:=Option.bind_eq_some_iff.1 h;simp only[Option.some.injEq,Prod.mk.injEq]at h;obtain⟨rfl,rfl,rfl,rfl,rfl⟩:=h;have I4:=Aside0.mk i4;have heb:(ev !=0)=false:=bne_eq_false_iff_eq.mpr he;clear i4 he H;go_wp2_with fail
  refine(frac_sum.calls k a0 a1 _ _ _ l2 _ _ _ l3 b0 b1 _ _ _ m2 _ _ _ m3 s1 s2 s3 s4 w7 (Kd.V_mk HA2.out.2 (Kd.C_F (Kd.heap_int .u32) (Kd.C_below HA2.out.1 HB7.out))) (Kd.V_mk HA3.out.2 (Kd.C_F (Kd.heap_int .u32) (Kd.C_below HA3.out.1 HB7.out))) (Kd.V_mk HC2.out.2 (Kd.C_F (Kd.heap_int .u32) (Kd.C_below HC2.out.1 HB7.out))) (Kd.V_mk HC3.out.2 (Kd.C_F (Kd.heap_int .u32) (Kd.C_below HC3.out.1 HB7.out))) I4.out).mono ?_;rintro e w8 ⟨v2,v3,rfl,hv2,hv3,hb8⟩;obtain⟨A8,c8,rfl⟩:=Kd.V_slice hv2;obtain⟨A9,c9,rfl⟩:=Kd.V_slice hv3;have K8:=Aside0.mk (blk_on KK7.out.2.2 hb8 (Nat.lt_of_lt_of_le GG.out.2.2.2.2.2.1 S7.out));have HV2:=Aside0.mk hv2;have HV3:=Aside0.mk hv3;have HB8:=Aside0.mk (HB7.out.trans (hb8.mono HB7.out.size));clear hv2 hv3 hb8 x1 x2 x3 x4 x5 x6 x7 x8 y1 y2 y3 y4 y5 y6 y7 y8;obtain⟨x1,x2,x3,x4,x5,x6,x7,x8⟩:=c4Q K8.out;go_wp2_with fail
  refine bodyPost_ret (results_ct rfl _ _ g3 59 #[.int .i64 s1,.bool s2,.slice A8 s3.length c8,.slice A9 s4.length c9] (0,0) _ rfl (blk4 K8.out _ _ _ _) Tryz.underlying59 rfl (by kernel_rfl)) rfl ?_;exact rat_ret2 HV2.out HV3.out HB8.out GG.out.2.2.1 (Nat.lt_of_lt_of_le GG.out.2.2.2.2.2.1 S7.out) HB7.out.size
 ·have h:=H.out;rw[if_neg he]at h;simp only[Option.some.injEq,Prod.mk.injEq]at h;obtain⟨rfl,rfl,rfl,rfl,rfl⟩:=h;have heb:(ev !=0)=true:=bne_iff_ne.mpr he;clear he H;go_wp2_with fail
  refine(frac_fault.calls ev _ _ _ _ _ rfl).mono ?_;rintro e w8 ⟨v2,v3,rfl,hv2,hv3,hb8⟩;obtain⟨A8,c8,rfl⟩:=Kd.R_slice hv2;obtain⟨A9,c9,rfl⟩:=Kd.R_slice hv3;have K8:=Aside0.mk (blk_on KK7.out.2.2 hb8 (Nat.lt_of_lt_of_le GG.out.2.2.2.2.2.1 S7.out));have HV2:=Aside0.mk (Kd.R_V (base':=0) (Kd.R_mono (Kd.R_bound hv2) (fun k hk=>hk.2.1)));have HV3:=Aside0.mk (Kd.R_V (base':=0) (Kd.R_mono (Kd.R_bound hv3) (fun k hk=>hk.2.1)));have HB8:=Aside0.mk (HB7.out.trans (hb8.mono HB7.out.size));clear hv2 hv3 hb8 x1 x2 x3 x4 x5 x6 x7 x8 y1 y2 y3 y4 y5 y6 y7 y8;obtain⟨x1,x2,x3,x4,x5,x6,x7,x8⟩:=c4Q K8.out;go_wp2_with fail
  refine bodyPost_ret (results_ct rfl _ _ g3 59 #[.int .i64 ev,.bool false,.slice A8 ([] :List Int).length c8,.slice A9 ([] :List Int).length c9] (0,0) _ rfl (blk4 K8.out _ _ _ _) Tryz.underlying59 rfl (by kernel_rfl)) rfl ?_;exact rat_ret2 HV2.out HV3.out HB8.out GG.out.2.2.1 (Nat.lt_of_lt_of_le GG.out.2.2.2.2.2.1 S7.out) HB7.out.size
theorem frac_Add.calls(k:Nat)(a0:Int)(a1:Bool)(A2:Option Addr)(c2:Nat)(l2:List Int)(A3:Option Addr)(c3:Nat)(l3:List Int)(b0:Int)(b1:Bool)(B2:Option Addr)(d2:Nat)(m2:List Int)(B3:Option Addr)(d3:Nat)(m3:List Int)(r1:Int)(r2:Bool)(r3 r4:List Int)(r5:Int)(w:World)
  (ha2:Kd.C (Kd.int .u32) w A2 l2.length l2) (la2:l2.length≤c2) (ha3:Kd.C (Kd.int .u32) w A3 l3.length l3) (la3:l3.length≤c3) (hb2:Kd.C (Kd.int .u32) w B2 m2.length m2) (lb2:m2.length≤d2) (hb3:Kd.C (Kd.int .u32) w B3 m3.length m3) (lb3:m3.length≤d3)
  (h:frac_Add.f k a0 a1 l2 l3 b0 b1 m2 m3=some (r1,r2,r3,r4,r5)):
  Calls Tryz.prog 54 #[.agg #[.int .i64 a0,.bool a1,.slice A2 l2.length c2,.slice A3 l3.length c3],.agg #[.int .i64 b0,.bool b1,.slice B2 m2.length d2,.slice B3 m3.length d3]] w fun e w'=> ∃v2 v3:Value,e= .returned (.tuple #[.agg #[.int .i64 r1,.bool r2,v2,v3],.int .i64 r5])∧
   Kd.V (Kd.int .u32) 60 w' w.heap.size (fun k_=>w.heap.size≤k_) v2 r3∧Kd.V (Kd.int .u32) 60 w' w.heap.size (fun k_=>w.heap.size≤k_) v3 r4∧Below w.heap.size w w':=by
 have hu59:=Tryz.underlying59;have HA2:=Aside0.mk (And.intro ha2 la2);have HA3:=Aside0.mk (And.intro ha3 la3);have HC2:=Aside0.mk (And.intro hb2 lb2);have HC3:=Aside0.mk (And.intro hb3 lb3);clear ha2 ha3 hb2 hb3 la2 la3 lb2 lb3;have H:=Aside0.mk h;clear h;go_enter Tryz.func54,Tryz.ntmps54
 go_wp2_with (first
  | (refine gD 2 ?_;refine bx_ 2 #[.int .i64 a0,.bool a1,.slice A2 l2.length c2,.slice A3 l3.length c3] 59 ?_;intro g1 hg w1 hbox hb;have G1:=Aside0.mk hg;have K1:=Aside0.mk hbox;have HB1:=Aside0.mk hb;clear hg hbox hb)
  | (refine gD 3 ?_;refine bx_ 3 #[.int .i64 b0,.bool b1,.slice B2 m2.length d2,.slice B3 m3.length d3] 59 ?_;intro g2 hg w2 hbox hb;have G2:=Aside0.mk hg;have K2:=Aside0.mk hbox;have HB2:=Aside0.mk hb;clear hg hbox hb)
  | (refine gD 4 ?_;refine bx_ 4 #[.int .i64 0,.bool false,.slice none 0 0,.slice none 0 0] 59 ?_;intro g3 hg w3 hbox hb;have G3:=Aside0.mk hg;have K3:=Aside0.mk hbox;have HB3:=Aside0.mk hb;clear hg hbox hb;have L1:=blk_lt K1.out;have L2:=blk_lt K2.out;have L3:=blk_lt K3.out;have S1:=HB1.out.size;have S2:=HB2.out.size;have S3:=HB3.out.size;have KK:=Aside0.mk (And.intro (blk_on (blk_on K1.out HB2.out L1) HB3.out (Nat.lt_of_lt_of_le L1 S2)) (And.intro (blk_on K2.out HB3.out L2) K3.out));have HBw:=Aside0.mk (HB1.out.trans ((HB2.out.trans (HB3.out.mono S2)).mono S1));have GG:=Aside0.mk (show w.heap.size≤g1∧w.heap.size≤g2∧w.heap.size≤g3∧g1< w3.heap.size∧g2< w3.heap.size∧g3< w3.heap.size∧g1≠g3∧g2≠g3 from by have:=G1.out;have:=G2.out;have:=G3.out;omega);clear L1 L2 L3 S1 S2 S3 K1 K2 K3 HB1 HB2 HB3 G1 G2 G3;obtain⟨x1,x2,x3,x4,x5,x6,x7,x8⟩:=c4Q KK.out.1;obtain⟨y1,y2,y3,y4,y5,y6,y7,y8⟩:=c4Q KK.out.2.1))
 refine(made_sum.calls k a0 a1 _ _ l2 _ _ l3 b0 b1 _ _ m2 _ _ m3 r1 r2 r3 r4 r5 w3 (Kd.C_below HA2.out.1 HBw.out) HA2.out.2 (Kd.C_below HA3.out.1 HBw.out) HA3.out.2 (Kd.C_below HC2.out.1 HBw.out) HC2.out.2 (Kd.C_below HC3.out.1 HBw.out) HC3.out.2 H.out).mono ?_;rintro e w8 ⟨v2,v3,rfl,hv2,hv3,hb8⟩;obtain⟨A8,c8,rfl⟩:=Kd.V_slice hv2;obtain⟨A9,c9,rfl⟩:=Kd.V_slice hv3;have K8:=Aside0.mk (blk_on KK.out.2.2 hb8 GG.out.2.2.2.2.2.1);have HV2:=Aside0.mk hv2;have HV3:=Aside0.mk hv3;have HB8:=Aside0.mk (HBw.out.trans (hb8.mono HBw.out.size));clear hv2 hv3 hb8 x1 x2 x3 x4 x5 x6 x7 x8 y1 y2 y3 y4 y5 y6 y7 y8;obtain⟨x1,x2,x3,x4,x5,x6,x7,x8⟩:=c4Q K8.out;go_wp2_with fail
 refine bodyPost_ret (results_ct rfl _ _ g3 59 #[.int .i64 r1,.bool r2,.slice A8 r3.length c8,.slice A9 r4.length c9] (0,0) _ rfl (blk4 K8.out _ _ _ _) Tryz.underlying59 rfl (by kernel_rfl)) rfl ?_;exact rat_ret2 HV2.out HV3.out HB8.out GG.out.2.2.1 GG.out.2.2.2.2.2.1 HBw.out.size
def badRow(k:Nat)(row:List S59):Bool:=row.any (fun x=>decide (ratOf k x=some false))
def squeezeSum(k:Nat)(c:Int):List Int→List S59→S59→Option S59
 |_,[],acc=>some acc
 | [],_::_,_=>none
 |d::ds,x::xs,acc=>if d=c∨x.f0≠0 then(frac_Add.f k acc.f0 acc.f1 acc.f2 acc.f3 x.f0 x.f1 x.f2 x.f3).bind fun t=>squeezeSum k c ds xs ⟨t.1,t.2.1,t.2.2.1,t.2.2.2.1⟩else squeezeSum k c ds xs acc
def squeezeRow(k:Nat)(l1:List Int)(row:List S59):Nat→Nat→List S59→Option (List S59)
 |0,_,acc=>some acc
 |n+1,c,acc=>(sparse_whole.f k 0).bind fun t=>(squeezeSum k (c:Int) l1 row ⟨t.1,t.2.1,t.2.2.1,t.2.2.2⟩).bind fun s=>squeezeRow k l1 row n (c+1) (acc++ [s])
def squeezeRows(k:Nat)(l1:List Int)(m:Nat):List (List S59)→List (List S59)→Option (List (List S59))
 | [],acc=>some acc
 |row::l,acc=>(squeezeRow k l1 row m 0 []).bind fun r=>squeezeRows k l1 m l (acc++ [r])
def sparse_Squeeze.f(k:Nat)(l0:List (List S59))(l1:List Int):Option (List (List S59)×Int):=
 (sparse_seeded.f k l1).bind fun s=>if¬s.2=0 then some ([],s.2)else if(l0.length:Int) >4096 then some ([],3)else if l0.any (fun row=>decide (¬ (row.length:Int)=(l1.length:Int)))=true then some ([],2)else
  if l0.all (fun row=>row.all (fun x=>(ratOf k x).isSome))=true then(if l0.any (badRow k)=true then some ([],5)else if 0≤s.1∧s.1≤4096 then(squeezeRows k l1 s.1.toNat l0 []).bind fun o=>some (o,0)else none)else none
theorem sparse_Squeeze.enters1: ∀args w,(callFunc 52 args).run Tryz.prog w= .ok (.enter 52 args) w:=enters_of Tryz.func52 (by kernel_rfl) rfl
theorem sparse_Squeeze.enters2: ∀args w,(callFunc 53 args).run Tryz.prog w= .ok (.enter 53 args) w:=enters_of Tryz.func53 (by kernel_rfl) rfl
theorem sparse_Squeeze.lit1(n1 c1:Nat)(A1:Option Addr)(B:Addr)(W:World)(hB:W.cell? B=some (.slice A1 n1 c1))(A:Option Addr)(c:Nat)(x:List S59):FnAny 52 #[.pointer (some B)] (.slice A x.length c) (decide (¬ (x.length:Int)=(n1:Int))) W:=by
 unfold FnAny;go_enter Tryz.func52,Tryz.ntmps52
 go_wp2_with fail
 go_ret;exact⟨by rw[decide_not];rfl,Below.refl _ _⟩
theorem sparse_Squeeze.lit2(k:Nat)(x:S59)(b:Bool)(hx:ratOf k x=some b)(W:World)(A2:Option Addr)(c2:Nat)(A3:Option Addr)(c3:Nat)(l2:x.f2.length≤c2)(g2:(Kd.int .u32).C W A2 x.f2.length x.f2)(l3:x.f3.length≤c3)(g3:(Kd.int .u32).C W A3 x.f3.length x.f3):
  FnAny 53 #[] (.agg #[.int .i64 x.f0,.bool x.f1,.slice A2 x.f2.length c2,.slice A3 x.f3.length c3]) (decide (ratOf k x=some false)) W:=by
 have hu59:=Tryz.underlying59;have e:decide (ratOf k x=some false)=!b:=by rw[hx];cases b<;>rfl
 rw[e];clear e;have HX:=Aside0.mk hx;have HA2:=Aside0.mk (And.intro g2 l2);have HA3:=Aside0.mk (And.intro g3 l3);clear hx g2 g3 l2 l3;unfold FnAny;go_enter Tryz.func53,Tryz.ntmps53
 go_wp2_with (refine gD 1 ?_;refine bx_ 1 #[.int .i64 x.f0,.bool x.f1,.slice A2 x.f2.length c2,.slice A3 x.f3.length c3] 59 ?_;intro g1 hg w1 hbox hb;have G1:=Aside0.mk hg;have K1:=Aside0.mk hbox;have HB1:=Aside0.mk hb;clear hg hbox hb;obtain⟨x1,x2,x3,x4,x5,x6,x7,x8⟩:=c4Q K1.out)
 refine(frac_IsRat.calls k _ _ _ _ x.f2 _ _ x.f3 b _ (Kd.C_below HA2.out.1 HB1.out) HA2.out.2 (Kd.C_below HA3.out.1 HB1.out) HA3.out.2 HX.out).mono ?_;rintro e w4 ⟨rfl,hb4⟩;have HB4:=Aside0.mk (HB1.out.trans (hb4.mono HB1.out.size));clear hb4 x1 x2 x3 x4 x5 x6 x7 x8;cases b;all_goals
  go_wp2_with fail
  go_ret;exact⟨rfl,HB4.out⟩
theorem sparse_Squeeze.calls(k:Nat)(A0:Option Addr)(c0:Nat)(l0:List (List S59))(A1:Option Addr)(c1:Nat)(l1:List Int)(r1:List (List S59))(r2:Int)(w:World)(hr0:Kd.C (Kd.slice 59 k59) w A0 l0.length l0)(hc0:l0.length≤c0)(hr1:Kd.C (Kd.int .i64) w A1 l1.length l1)(hc1:l1.length≤c1)(h:sparse_Squeeze.f k l0 l1=some (r1,r2)):
  Calls Tryz.prog 21 #[.slice A0 l0.length c0,.slice A1 l1.length c1] w fun e w'=> ∃v0_:Value,e= .returned (.tuple #[v0_,.int .i64 r2])∧Kd.N (Kd.slice 59 k59) 35 w' w.heap.size (fun k_=>(w.heap.size≤k_)) v0_ r1∧Below w.heap.size w w':=by
 have hn0:l0.length≤9223372036854775807:=hr0.2.1;have hn1:l1.length≤9223372036854775807:=hr1.2.1;have HR0:=Aside0.mk hr0;have HR1:=Aside0.mk (And.intro hr1 hc1);have hu59:=Tryz.underlying59;clear hr0 hr1 hc0 hc1;unfold sparse_Squeeze.f at h;obtain⟨⟨s1,s2⟩,hs,h⟩:=Option.bind_eq_some_iff.1 h;have HS:=Aside0.mk hs;have H:=Aside0.mk h;clear hs h;go_enter Tryz.func21,Tryz.ntmps21
 go_wp2_with (refine gD 3 ?_;refine bx_ 3 #[.slice A1 l1.length c1] 23 ?_;intro g1 hg w1 hbox hb;have G1:=Aside0.mk hg;have K1:=Aside0.mk hbox;have HB1:=Aside0.mk hb;have x1:=bC K1.out 0;clear hg hbox hb)
 refine(sparse_seeded.calls k _ _ l1 s1 s2 _ (Kd.C_below HR1.out.1 HB1.out) HR1.out.2 HS.out).mono ?_;rintro e w2 ⟨rfl,hb2⟩;have K2:=Aside0.mk (blk_on K1.out hb2 (blk_lt K1.out));have HB2:=Aside0.mk (HB1.out.trans (hb2.mono HB1.out.size));clear hb2 K1 HB1 x1;by_cases h2: ¬s2=0
 ·have h:=H.out;rw[if_pos h2]at h;simp only[Option.some.injEq,Prod.mk.injEq]at h;obtain⟨rfl,rfl⟩:=h;have hb:(s2 !=0)=true:=bne_iff_ne.mpr h2;clear h2 H;go_wp2_with fail
  go_ret2;exact⟨_,rfl,Kd.N_nil _ _ _ _ _,HB2.out⟩
 have h:=H.out;rw[if_neg h2]at h;have hs2:s2=0:=Classical.not_not.1 h2;subst hs2;clear h2 H;by_cases h3:(l0.length:Int) >4096
 ·rw[if_pos h3]at h;simp only[Option.some.injEq,Prod.mk.injEq]at h;obtain⟨rfl,rfl⟩:=h;go_wp2_with fail
  go_ret2;exact⟨_,rfl,Kd.N_nil _ _ _ _ _,HB2.out⟩
 rw[if_neg h3]at h;obtain⟨b,hb⟩: ∃b,l0.any (fun row=>decide (¬ (row.length:Int)=(l1.length:Int)))=b:=⟨_,rfl⟩;rw[hb]at h;have HP:=Aside0.mk hb;have H:=Aside0.mk h;clear hb h;go_wp2_with fail
 refine(ContainsFunc_LRat.calls A0 c0 l0 _ 52 _ _ sparse_Squeeze.enters1 (Kd.C_below HR0.out HB2.out) (fun W x v hW hK _=>by obtain⟨A,c,hv,_⟩:=hK;cases hv;exact sparse_Squeeze.lit1 l1.length c1 A1 _ W ((blk_cell (blk_on K2.out hW (blk_lt K2.out)) 0).trans rfl) A c x)).mono ?_;rintro e w3 ⟨rfl,hb3⟩;rw[HP.out];have K3:=Aside0.mk (blk_on K2.out hb3 (blk_lt K2.out));have HB3:=Aside0.mk (HB2.out.trans (hb3.mono HB2.out.size));have HL:=Aside0.mk (fun row hrow=>(List.any_eq_false.1 · row hrow): ∀row,row∈l0→l0.any (fun row=>decide (¬ (row.length:Int)=(l1.length:Int)))=false→ ¬decide (¬ (row.length:Int)=(l1.length:Int))=true);clear hb3 K2 HB2;cases b
 case true=>
  have h:=H.out;rw[if_pos rfl]at h;simp only[Option.some.injEq,Prod.mk.injEq]at h;obtain⟨rfl,rfl⟩:=h;clear HL;go_wp2_with fail
  go_ret2;exact⟨_,rfl,Kd.N_nil _ _ _ _ _,HB3.out⟩
 case false=>
  have h:=H.out;rw[if_neg (by decide)]at h;split at h
  case isFalse=>cases h
  case isTrue hall=>
  have HL:=Aside0.mk (fun row hrow=>(by simpa using HL.out row hrow HP.out): ∀row,row∈l0→(row.length:Int)=(l1.length:Int));have HA:=Aside0.mk (fun row hrow x hx=>(by have:=List.all_eq_true.1 (List.all_eq_true.1 hall row hrow) x hx;exact Option.isSome_iff_exists.1 this): ∀row,row∈l0→ ∀x,x∈row→ ∃b,ratOf k x=some b);have H:=Aside0.mk h;clear h hall HP;go_wp2_with fail
  go_loopg [36] l0.length (fun gg s36 wr=> ∃i:Nat,i≤l0.length∧l0.length - i≤gg∧s36= .int .i64 i∧Aside0 (Below w.heap.size w wr)∧Aside0 (wr.heap[g1]? =some (.cells #[.slice A1 l1.length c1] 23 (0,0)))∧Aside0 (∀row,row∈l0.take i→badRow k row=false))
  case atStart=>exact⟨0,Nat.zero_le _,by omega,rfl,HB3,K3,⟨by simp⟩⟩
  case round=>
  clear HB3 K3;obtain⟨i,hi,hg,rfl,HB,K,HT⟩:=hrel;by_cases hlt:i< l0.length
  ·have hltz:(i:Int)< (l0.length:Int):=by omega
   obtain⟨ad,c,e0,hc1',hK,hc0'⟩:=Kd.C_get (Kd.C_below HR0.out HB.out) ([] :List S59) (i:Int) (by omega) (by omega);subst e0;have hx:l0.getD (Int.toNat i) ([] :List S59)=l0[i] :=by simp[hlt]
   rw[hx]at hK;obtain⟨row,hrow⟩: ∃row,row=l0[i] :=⟨_,rfl⟩;rw[←hrow]at hK;have hmem:row∈l0:=hrow▸List.getElem_mem _;obtain⟨A2,c2,rfl,hl2,hC2⟩:=hK;have hcell:_=some (Value.slice A2 row.length c2):=hc0' 0 _ rfl;rw[show(Kd.slice 59 k59).sz=1 from rfl,Nat.mul_one,Nat.add_zero,Int.toNat_natCast]at hcell;have HC2:=Aside0.mk hC2;have HM:=Aside0.mk hmem;have HRW:=Aside0.mk hrow;clear hx hc0' hc1' hC2 hmem hrow hl2;obtain⟨b,hb⟩: ∃b,badRow k row=b:=⟨_,rfl⟩;have HBR:=Aside0.mk hb;clear hb;go_wp2_with fail
   refine(ContainsFunc_Rat.calls A2 c2 row _ 53 #[] (fun x=>decide (ratOf k x=some false)) sparse_Squeeze.enters2 HC2.out (fun W x A3 c3 A4 c4 hW hx l3 g3 l4 g4=>by obtain⟨b,hb⟩:=HA.out row HM.out x hx;exact sparse_Squeeze.lit2 k x b hb W A3 c3 A4 c4 l3 g3 l4 g4)).mono ?_;rintro e w4 ⟨rfl,hb4⟩;rw[show row.any (fun x=>decide (ratOf k x=some false))=b from HBR.out];have K4:=Aside0.mk (blk_on K.out hb4 (blk_lt K.out));have HB4:=Aside0.mk (HB.out.trans (hb4.mono HB.out.size));clear hb4 K HB;cases b
   case true=>
    have h:=H.out;rw[if_pos (List.any_eq_true.2 ⟨row,HM.out,HBR.out⟩)]at h;simp only[Option.some.injEq,Prod.mk.injEq]at h;obtain⟨rfl,rfl⟩:=h;clear HL HA HT;go_wp2_with fail
    go_ret2;exact⟨_,rfl,Kd.N_nil _ _ _ _ _,HB4.out⟩
   case false=>
    go_wp2_with fail
    go_roundg (l0.length - (i+1))
    case measure=>omega
    case rel=>
     refine⟨i+1,by omega,by omega,by go_num,HB4,K4,⟨fun x hx=>?_⟩⟩;rw[List.take_succ_eq_append_getElem hlt,List.mem_append]at hx;rcases hx with hx|hx
     ·exact HT.out x hx
     ·rw[List.mem_singleton.1 hx,←HRW.out];exact HBR.out
  ·have hltz: ¬ (i:Int)< (l0.length:Int):=by omega
   have:i=l0.length:=by omega
   subst this;have h:=H.out;have hf:l0.any (badRow k)=false:=List.any_eq_false.2 (fun x hx=>by rw[HT.out x (by rw[List.take_length];exact hx)];decide);rw[if_neg (by rw[hf];decide)]at h;split at h
   case isFalse=>cases h
   case isTrue hs1=>
   obtain⟨hs0,hs1⟩:=hs1;obtain⟨o,ho,h⟩:=Option.bind_eq_some_iff.1 h;simp only[Option.some.injEq,Prod.mk.injEq]at h;obtain⟨rfl,rfl⟩:=h;obtain⟨m,rfl⟩:=Int.eq_ofNat_of_zero_le hs0;rw[Int.toNat_natCast]at ho;have H0:=Aside0.mk ho;have hm1:m≤4096:=by omega
   clear hf ho H HT HA hi hg hs0 hs1 HS;go_wp2_with (refine gD 45 ?_;refine Kd.R_make (Kd.scalar (fun v:Value=>Value.slice none 0 0) (fun _=>rfl)) w.heap.size 35 rfl (N:=45) rfl 24 _ _ rfl (l0.length:Int) rfl rfl Tryz.underlying24 (.slice none 0 0) 24 infoRats rfl (by decide) (by omega) (.slice none 0 0) (ok:=fun _=>True) (okp:=fun _=>True) rfl (fun _ hk=>hk) trivial (by omega) (by omega) HB.out HB.out.size ?_;intro v1 w5 ho hb hgr hnew;have ho2:=Kd.own_of_R ho;rw[List.length_replicate,Int.toNat_natCast]at ho2;obtain⟨g,cap,rfl⟩:=slice_form ho2 (hnew.imp fun b h=>h.1);have HO:=Aside0.mk ho2;have HB5:=Aside0.mk hb;have HG:=Aside0.mk (show g1< g∧w5.heap[g1]? =some (.cells #[.slice A1 l1.length c1] 23 (0,0))from by obtain⟨b,h1,h2⟩:=hnew;have e:g=b:=(by simpa [Value.ownBlock]using h1);have hk:=blk_lt K.out;exact⟨by omega,(hgr.block g1 (blk_lt K.out) (by simp)).trans K.out⟩);clear ho ho2 hb hnew hgr)
   go_loopg [48] l0.length (fun gg s48 wr=> ∃ (i H0:Nat) (cs:List Value) (done:List (List S59)),i≤l0.length∧l0.length - i≤gg∧s48= .int .i64 i∧Aside0 (RowsAt k59 59 35 wr w.heap.size g cap l0.length i H0 cs done [])∧Aside0 (Below w.heap.size w wr)∧Aside0 (g1< g∧wr.heap[g1]? =some (.cells #[.slice A1 l1.length c1] 23 (0,0)))∧Aside0 (squeezeRows k l1 m (l0.drop i) done=some o))
   case atStart=>
    refine⟨0,w5.heap.size,List.replicate l0.length (.slice none 0 0),[],Nat.zero_le _,by omega,rfl,⟨⟨?_,?_,Nat.le_refl _,HB5.out.size,by simp,rfl,fun j x u hx=>by simp at hx,fun hc=>⟨_,by rw[List.getElem?_replicate,if_pos hc],Kd.N_nil _ _ _ _ _⟩,fun j _ hj=>by rw[List.getElem?_replicate,if_pos hj]⟩⟩,HB5,HG,H0⟩
    ·have:=HO.out
     simpa [encs]using this
    ·exact(HO.out.lt g (by simp[Value.ownBlock])).2
   case round=>
   clear H0 HB5 HO HG HB K;obtain⟨i,H0,cs,done,hi,hgi,rfl,HA,HB,HG,HP⟩:=hrel;by_cases hlt:i< l0.length
   ·have hltz:(i:Int)< (l0.length:Int):=by omega
    obtain⟨ad,A2,c2,e0,hx2,hl2,hC2⟩:=row_at HR0.out i hlt;subst e0;have hll:=HL.out _ (List.getElem_mem hlt);have hd:l0.drop i=l0[i] ::l0.drop (i+1):=List.drop_eq_getElem_cons hlt;obtain⟨row,hrow⟩: ∃row,row=l0[i] :=⟨_,rfl⟩;rw[←hrow]at hx2 hl2 hC2 hd hll;have x2:=hx2 _ HB.out;have hP:=HP.out;rw[hd,squeezeRows]at hP;obtain⟨rr,hrr,hP⟩:=Option.bind_eq_some_iff.1 hP;have HP:=Aside0.mk hP;have HRow:=Aside0.mk hrr;have HC2:=Aside0.mk hC2;have HLL:=Aside0.mk hll;have hn2:row.length≤9223372036854775807:=hC2.2.1;clear hP hrr hd hrow hx2 hC2 hll;go_wp2_with fail
    go_loopg [54] m (fun gg s54 wr=> ∃ (c:Nat) (cs:List Value) (part:List S59),c≤m∧m - c≤gg∧part.length≤c∧s54= .int .i64 c∧Aside0 (RowsAt k59 59 35 wr w.heap.size g cap l0.length i H0 cs done part)∧Aside0 (Below w.heap.size w wr)∧Aside0 (g1< g∧wr.heap[g1]? =some (.cells #[.slice A1 l1.length c1] 23 (0,0)))∧Aside0 (squeezeRow k l1 row (m - c) c part=some rr))
    case atStart=>exact⟨0,cs,[],Nat.zero_le _,by omega,by simp,rfl,HA,HB,HG,HRow⟩
    case round=>
     clear HA HB HG HRow x2;obtain⟨c,cs,part,hc,hgc,hpl,rfl,HA,HB,HG,HRow⟩:=hrel;obtain⟨wa,rfl⟩: ∃wa,wa=wr:=⟨wr,rfl⟩;by_cases hct:c< m
     ·have hctz:(c:Int)< (m:Int):=by omega
      obtain⟨n,hn⟩: ∃n,m - c=n+1:=⟨m - c - 1,by omega⟩;have hR:=HRow.out;rw[hn,squeezeRow]at hR;obtain⟨⟨t1,t2,t3,t4⟩,hw0,hR⟩:=Option.bind_eq_some_iff.1 hR;obtain⟨ss,hss,hR⟩:=Option.bind_eq_some_iff.1 hR;have HW:=Aside0.mk hw0;have HSum:=Aside0.mk hss;have HRow:=Aside0.mk hR;have Hn:=Aside0.mk hn;clear hR hw0 hss hn;go_wp2_with fail
      (with_reducible refine(sparse_whole.calls k _ t1 t2 t3 t4 _ HW.out).mono ?_);rintro e w3 ⟨v2,v3,rfl,hv2,hv3,hb3⟩;obtain⟨B2,d2,rfl⟩:=Kd.V_slice hv2;obtain⟨B3,d3,rfl⟩:=Kd.V_slice hv3;have HV:=Aside0.mk (And.intro (Kd.V_bound hv2) (Kd.V_bound hv3));have HB3:=Aside0.mk hb3;clear hv2 hv3 hb3;go_wp2_with (refine gD 14 ?_;refine bx_ 14 #[.int .i64 0,.bool false,.slice none 0 0,.slice none 0 0] 59 ?_;intro g4 hg w4 hbox hb;have G4:=Aside0.mk (Nat.le_of_eq hg.symm);have K4:=Aside0.mk hbox;have HB4:=Aside0.mk hb;clear hg hbox hb;obtain⟨y1,y2,y3,y4,y5,y6,y7,y8⟩:=c4Q K4.out)
      clear y1 y2 y3 y4 y5 y6 y7 y8;go_loopg [60] row.length (fun gg s60 wr=> ∃ (j:Nat) (s:S59) (u2 u3:Value),j≤row.length∧row.length - j≤gg∧s60= .int .i64 j∧Aside0 (wr.heap[g4]? =some (.cells #[.int .i64 s.f0,.bool s.f1,u2,u3] 59 (0,0)))∧Aside0 (Kd.V (Kd.int .u32) 60 wr wa.heap.size (fun k=>wa.heap.size≤k∧k≠g4) u2 s.f2∧Kd.V (Kd.int .u32) 60 wr wa.heap.size (fun k=>wa.heap.size≤k∧k≠g4) u3 s.f3)∧Aside0 (Below wa.heap.size wa wr)∧Aside0 (squeezeSum k (c:Int) (l1.drop j) (row.drop j) s=some ss))
      case atStart=>
       exact⟨0,⟨t1,t2,t3,t4⟩,_,_,Nat.zero_le _,by omega,rfl,⟨blk4 K4.out _ _ _ _⟩,⟨⟨V_sum HV.out.1 HB4.out G4.out _ _ _ _,V_sum HV.out.2 HB4.out G4.out _ _ _ _⟩⟩,⟨below_sum (HB3.out.trans (HB4.out.mono HB3.out.size)) (Nat.le_trans HB3.out.size G4.out) _ _ _ _⟩,HSum⟩
      case round=>
      have HG4:=Aside0.mk (Nat.le_trans HB3.out.size G4.out);clear HSum HV HB3 HB4 K4 G4;obtain⟨j,s,u2,u3,hj,hgj,rfl,K4,HV,HB4,HSum⟩:=hrel;obtain⟨U2,d4,rfl⟩:=Kd.V_slice HV.out.1;obtain⟨U3,d5,rfl⟩:=Kd.V_slice HV.out.2;by_cases hjt:j< row.length
      ·have hjtz:(j:Int)< (row.length:Int):=by omega
       have hjl:j< l1.length:=by have:=HLL.out;omega
       have hjlz:(j:Int)< (l1.length:Int):=by omega
       have HBw:=Aside0.mk (HB.out.trans (HB4.out.mono HB.out.size));obtain⟨ad2,X2,e2,X3,e3,e0,hx0,hx1,hx2,hx3,hl2',hi2,hl3',hi3⟩:=at_T59 (Kd.C_below HC2.out HBw.out) (j:Int) (by omega) (by omega);subst e0;have hx:rd_T59 row (j:Int)=row[j] :=by unfold rd_T59;simp[hjt]
       obtain⟨x,hxx⟩: ∃x,x=row[j] :=⟨_,rfl⟩;rw[hx,←hxx]at hx0 hx1 hx2 hx3 hl2' hi2 hl3' hi3;simp only[Int.toNat_natCast]at hx0 hx1 hx2 hx3;obtain⟨ad1,e1,hc⟩:=Kd.at_int (Kd.C_below HR1.out.1 (Below.refl _ _)) (j:Int) (by omega) (by omega);subst e1;simp only[rd,Int.toNat_natCast]at hc;obtain⟨d,hdd⟩: ∃d,d=l1.getD j 0:=⟨_,rfl⟩;rw[←hdd]at hc;have hd1:l1.drop j=d::l1.drop (j+1):=by rw[List.drop_eq_getElem_cons hjl,hdd];simp[hjl]
       have hd2:row.drop j=x::row.drop (j+1):=by rw[List.drop_eq_getElem_cons hjt,hxx]
       have hS:=HSum.out;rw[hd1,hd2,squeezeSum]at hS;have HSum:=Aside0.mk hS;have HI:=Aside0.mk (And.intro (And.intro hi2 hl2') (And.intro hi3 hl3'));have HCc:=Aside0.mk hc;have hmem:x∈row:=hxx▸List.getElem_mem hjt;clear hS hd1 hd2 hdd hxx hx hi2 hl2' hi3 hl3' hc hmem;have hb1:(d==(c:Int))=decide (d=c):=by by_cases h:d=(c:Int)<;>simp[h]
       have hb2:(x.f0 !=0)=decide (x.f0≠0):=by by_cases h:x.f0=0<;>simp[h]
       obtain⟨q1,hq1⟩: ∃q,decide (d=(c:Int))=q:=⟨_,rfl⟩;obtain⟨q2,hq2⟩: ∃q,decide (x.f0≠0)=q:=⟨_,rfl⟩;rw[hq1]at hb1;rw[hq2]at hb2;have HQ1:=Aside0.mk hq1;have HQ2:=Aside0.mk hq2;clear hq1 hq2;by_cases hskip:q1=false∧q2=false
       ·obtain⟨rfl,rfl⟩:=hskip;have hS:=HSum.out;rw[if_neg (by rintro (h|h);exact absurd h (of_decide_eq_false HQ1.out);exact absurd h (of_decide_eq_false HQ2.out))]at hS;have HSum:=Aside0.mk hS;clear hS HQ1 HQ2;go_wp2_with (first
         | (refine gD 16 ?_;refine bx_ 16 #[.int .i64 0,.bool false,.slice none 0 0,.slice none 0 0] 59 ?_;intro g6 hg w5 hbox hb;have G6:=Aside0.mk (Nat.le_of_eq hg.symm);have K5:=Aside0.mk hbox;have HB5:=Aside0.mk hb;clear hg hbox hb;obtain⟨y1,y2,y3,y4,y5,y6,y7,y8⟩:=c4Q K5.out)
         | (refine gD 65 ?_;have hk5:=K5;clear K5 y1 y2 y3 y4 y5 y6 y7 y8;generalize hq_:World.setCell (World.setCell (World.setCell (World.setCell w5 ⟨g6,0,none⟩ (.int .i64 x.f0)) ⟨g6,1,none⟩ (.bool x.f1)) ⟨g6,2,none⟩ (.slice X2 x.f2.length e2)) ⟨g6,3,none⟩ (.slice X3 x.f3.length e3)=w6;have K6:=Aside0.mk (hq_▸blk4 hk5.out _ _ _ _:w6.heap[g6]? =some (.cells #[.int .i64 x.f0,.bool x.f1,.slice X2 x.f2.length e2,.slice X3 x.f3.length e3] 59 (0,0)));have HB6:=Aside0.mk (hq_▸below_sum HB5.out G6.out _ _ _ _:Below wr.heap.size wr w6);clear hq_ hk5 HB5;obtain⟨y1,y2,y3,y4,y5,y6,y7,y8⟩:=c4Q K6.out;obtain⟨z1,z2,z3,z4,z5,z6,z7,z8⟩:=c4Q (blk_on K4.out HB6.out (blk_lt K4.out));have x1:=(blk_cell (blk_on (blk_on HG.out.2 HB4.out (blk_lt HG.out.2)) HB6.out (Nat.lt_of_lt_of_le (blk_lt HG.out.2) HB4.out.size)) 0).trans rfl;have x2:=((HBw.out.trans (HB6.out.mono HBw.out.size)).cell (World.block_lt_of_cell? w _ HCc.out)).trans HCc.out))
        go_roundg (row.length - (j+1))
        case measure=>omega
        case rel=>
         exact⟨j+1,s,_,_,by omega,by omega,by go_num,⟨blk_on K4.out HB6.out (blk_lt K4.out)⟩,⟨⟨Kd.V_below HV.out.1 HB6.out,Kd.V_below HV.out.2 HB6.out⟩⟩,⟨HB4.out.trans (HB6.out.mono HB4.out.size)⟩,HSum⟩
       ·have hor:q1=true∨(q1=false∧q2=true):=by revert hskip;cases q1<;>cases q2<;>decide
        have hdis:d=(c:Int)∨x.f0≠0:=by rcases hor with h|h;exact Or.inl (of_decide_eq_true (HQ1.out.trans h));exact Or.inr (of_decide_eq_true (HQ2.out.trans h.2))
        have hS:=HSum.out;rw[if_pos hdis]at hS;obtain⟨⟨p1,p2,p3,p4,p5⟩,hadd,hS⟩:=Option.bind_eq_some_iff.1 hS;have HSum:=Aside0.mk hS;have HAdd:=Aside0.mk hadd;clear hS hadd hdis HQ1 HQ2 hskip;rcases hor with rfl| ⟨rfl,rfl⟩
        all_goals
         go_wp2_with (first
          | (refine gD 16 ?_;refine bx_ 16 #[.int .i64 0,.bool false,.slice none 0 0,.slice none 0 0] 59 ?_;intro g6 hg w5 hbox hb;have G6:=Aside0.mk (Nat.le_of_eq hg.symm);have K5:=Aside0.mk hbox;have HB5:=Aside0.mk hb;clear hg hbox hb;obtain⟨y1,y2,y3,y4,y5,y6,y7,y8⟩:=c4Q K5.out)
          | (refine gD 65 ?_;have hk5:=K5;clear K5 y1 y2 y3 y4 y5 y6 y7 y8;generalize hq_:World.setCell (World.setCell (World.setCell (World.setCell w5 ⟨g6,0,none⟩ (.int .i64 x.f0)) ⟨g6,1,none⟩ (.bool x.f1)) ⟨g6,2,none⟩ (.slice X2 x.f2.length e2)) ⟨g6,3,none⟩ (.slice X3 x.f3.length e3)=w6;have K6:=Aside0.mk (hq_▸blk4 hk5.out _ _ _ _:w6.heap[g6]? =some (.cells #[.int .i64 x.f0,.bool x.f1,.slice X2 x.f2.length e2,.slice X3 x.f3.length e3] 59 (0,0)));have HB6:=Aside0.mk (hq_▸below_sum HB5.out G6.out _ _ _ _:Below wr.heap.size wr w6);clear hq_ hk5 HB5;obtain⟨y1,y2,y3,y4,y5,y6,y7,y8⟩:=c4Q K6.out;obtain⟨z1,z2,z3,z4,z5,z6,z7,z8⟩:=c4Q (blk_on K4.out HB6.out (blk_lt K4.out));have x1:=(blk_cell (blk_on (blk_on HG.out.2 HB4.out (blk_lt HG.out.2)) HB6.out (Nat.lt_of_lt_of_le (blk_lt HG.out.2) HB4.out.size)) 0).trans rfl;have x2:=((HBw.out.trans (HB6.out.mono HBw.out.size)).cell (World.block_lt_of_cell? w _ HCc.out)).trans HCc.out))
         refine(frac_Add.calls k s.f0 s.f1 _ _ s.f2 _ _ s.f3 x.f0 x.f1 _ _ x.f2 _ _ x.f3 p1 p2 p3 p4 p5 w6 (Kd.V_reads' (Kd.V_below HV.out.1 HB6.out)).2.2 (Kd.V_reads' HV.out.1).2.1 (Kd.V_reads' (Kd.V_below HV.out.2 HB6.out)).2.2 (Kd.V_reads' HV.out.2).2.1 (Kd.C_below HI.out.1.1 HB6.out) HI.out.1.2 (Kd.C_below HI.out.2.1 HB6.out) HI.out.2.2 HAdd.out).mono ?_;rintro e w7 ⟨v2,v3,rfl,hv2,hv3,hb7⟩;obtain⟨V2,f2,rfl⟩:=Kd.V_slice hv2;obtain⟨V3,f3,rfl⟩:=Kd.V_slice hv3;have K7:=Aside0.mk (blk_on (blk_on K4.out HB6.out (blk_lt K4.out)) hb7 (Nat.lt_of_lt_of_le (blk_lt K4.out) HB6.out.size));have HV7:=Aside0.mk (And.intro hv2 hv3);have HB7:=Aside0.mk (HB4.out.trans ((HB6.out.trans (hb7.mono HB6.out.size)).mono HB4.out.size));have S6:=Aside0.mk (And.intro (Nat.lt_of_lt_of_le (blk_lt K4.out) HB6.out.size) (Nat.le_trans HB4.out.size HB6.out.size));clear hv2 hv3 hb7 y1 y2 y3 y4 y5 y6 y7 y8 z1 z2 z3 z4 z5 z6 z7 z8 x1 x2;obtain⟨y1,y2,y3,y4,y5,y6,y7,y8⟩:=c4Q K7.out;go_wp2_with fail
         go_roundg (row.length - (j+1))
         case measure=>omega
         case rel=>
          exact⟨j+1,⟨p1,p2,p3,p4⟩,_,_,by omega,by omega,by go_num,⟨blk4 K7.out _ _ _ _⟩,⟨⟨V_sum2 HV7.out.1 S6.out.1 S6.out.2 _ _ _ _,V_sum2 HV7.out.2 S6.out.1 S6.out.2 _ _ _ _⟩⟩,⟨below_sum HB7.out HG4.out _ _ _ _⟩,HSum⟩
      ·have hjtz: ¬ (j:Int)< (row.length:Int):=by omega
       have:j=row.length:=by omega
       subst this;have hS:=HSum.out;rw[List.drop_length,show∀ds,squeezeSum k (c:Int) ds [] s=some s from fun ds=>by cases ds<;>rfl]at hS;have hss:s=ss:=Option.some.inj hS;subst hss;clear hS;obtain⟨vc,hvc,hN⟩:=HA.out.now hlt;have HN:=Aside0.mk hN;have HB4w:=Aside0.mk HB4.out;have HVw:=Aside0.mk (And.intro (Kd.V_drew HV.out.1) (Kd.V_drew HV.out.2));have hcell:=((HA.out.below HB4.out).cell hvc).1;replace HB4:=Aside0.mk (HB4.out.trans ((Below.refl wa.heap.size wr).drew));have HA4:=Aside0.mk (HA.out.below HB4.out);obtain⟨Ac,cc,rfl,hlc,_⟩:=Kd.N_reads hN;have Hvc:=Aside0.mk hvc;clear hN;go_wp2_with fail
       refine start_ (n:=11) (S:=fun w'=>w'.cell? ⟨g,i,none⟩=some (.slice Ac part.length cc)∧w'.heap[g4]? =some (.cells #[.int .i64 s.f0,.bool s.f1,.slice U2 s.f2.length d4,.slice U3 s.f3.length d5] 59 (0,0))) (ds:= [10]) (M_ 11 0) (by kernel_rfl) rfl (by kernel_rfl) ⟨hcell,K4.out⟩ (fun hHeld=>?_);refine pu_ 0 (some 83) (M_ 11 1) ?_;refine pu_ 1 (some 84) (M_ 11 3) ?_;refine pu_ 2 (some 85) (M_ 11 7) ?_;refine pu_ 3 (some 86) (M_ 11 15) ?_;refine pu_ 4 (some 87) (M_ 11 31) ?_;refine take_ (i:=5) (N:=some 88) (v:=?_) (a':=?_) (M_ 11 63) rfl rfl (by kernel_rfl) (fun _ _ _ h=>h) (Or.inl ⟨by rfl,?_⟩) hHeld ?_ ?_;rotate_left
       ·intro w' s0;obtain⟨s1,s2⟩:=s0;go_simp;with_reducible rfl
       rotate_left
       ·simp only[Act.put,List.setIfInBounds_toArray,List.set_cons_zero,List.set_cons_succ,i64_w,i32_w];rfl
       refine take_ (i:=6) (N:=some 89) (v:=?_) (a':=?_) (M_ 11 127) rfl rfl (by kernel_rfl) (fun _ _ _ h=>h) (Or.inl ⟨by rfl,?_⟩) hHeld ?_ ?_;rotate_left
       ·intro w' s0;obtain⟨s1,s2⟩:=s0;obtain⟨y1,y2,y3,y4,y5,y6,y7,y8⟩:=c4Q s2;go_simp;with_reducible rfl
       rotate_left
       ·simp only[Act.put,List.setIfInBounds_toArray,List.set_cons_zero,List.set_cons_succ,i64_w,i32_w];rfl
       refine one_ (i:=7) (N:=some 90) (M_ 11 255) rfl rfl (by kernel_rfl) (by decide) (fun K hK=>?_);refine value_ (w1:=?_) (v:=?_) (by rfl) rfl ?_ ?_;rotate_left 2
       ·go_simp;constructor
        ·rfl
        ·rfl
       refine hK.out _ _ ⟨((HA4.out.below (below_alloc (Below.refl _ _) _)).cell hvc).1,blk_alloc K4.out _⟩ (fun hHeld=>?_);clear hK K;refine no_ 90 ?_;refine one_ (i:=8) (N:=some 91) (M_ 11 511) rfl rfl (by kernel_rfl) (by decide) (fun K hK=>?_);refine Kd.N_append_step k59 (w0:=wr.drew) (W:=wr.drew) H0 (by rfl) (.tmp 88) (.tmp 90) 35 59 (.agg #[.int .i64 0,.bool false,.slice none 0 0,.slice none 0 0]) 64 rfl Tryz.underlying35 infoRat rfl (by decide) (by omega) (.slice Ac part.length cc) part s [.int .i64 s.f0,.bool s.f1,.slice U2 s.f2.length d4,.slice U3 s.f3.length d5] (fun k=>H0≤k) (fun k=>wa.heap.size≤k∧k≠g4) rfl rfl ?hp ?hokp ?hfresh ?HO ?HB ?hbase ?hl ?_;(case hp=>exact k59_mkF _ _ s (Kd.V_at HVw.out.1).2.1 (Kd.V_at HVw.out.1).2.2 (Kd.V_at HVw.out.2).2.1 (Kd.V_at HVw.out.2).2.2);(case hokp=>exact fun k hk=>⟨Nat.le_trans HA.out.hw hk.1,fun e=>by have h1:=Kd.N_lt HN.out k e.symm;have hk:=hk.1;omega⟩);(case hfresh=>exact fun k hk=>Nat.le_trans HA4.out.hw hk);(case HO=>exact Kd.N_below HN.out HB4.out);(case HB=>exact Below.refl _ _);(case hbase=>exact HA4.out.hw);(case hl=>omega);intro v1 w5 hN5 _ hg5 _;obtain⟨A5,c5,rfl,_⟩:=Kd.N_reads hN5;rw[List.length_append,List.length_singleton]at hN5;obtain⟨hc5,hf5⟩:=HA4.out.after hg5 (N_own_ge HN.out) hvc;have K5:=Aside0.mk ((hg5.block g4 (blk_lt K4.out) (fun e=>by have h1:=Kd.N_lt HN.out g4 e.symm;have h2:=HG4.out;omega)).trans K4.out);have HN5:=Aside0.mk hN5;have HG5:=Aside0.mk hg5;clear hN5 hg5;refine hK.out _ _ ⟨hc5,K5.out⟩ (fun hHeld=>?_);clear hK K;refine no_ 91 ?_;refine pu_ 9 (some 92) (M_ 11 1023) ?_;refine last_ (i:=10) (N:=none) (M_ 11 2047) rfl rfl (by kernel_rfl) (by decide) (fun K hK=>?_);refine skip_ (w1:=?_) (by rfl) rfl ?_ ?_;rotate_left
       ·go_simp;rfl
       refine hK.out _ _ ?_;clear hK K;refine done_ (by kernel_rfl) ?_;go_wp2_with fail
       go_roundg (m - (c+1))
       case measure=>omega
       case rel=>
        refine⟨c+1,cs.set i _,part++ [s],by omega,by omega,by simp;omega,by go_num,⟨HA4.out.put hlt Hvc.out HG5.out (N_own_ge HN.out) HN5.out⟩,⟨((HB.out.trans (HB4.out.mono HB.out.size)).grown HG5.out (by have:=HB.out.size;have:=HB4.out.size;omega) (fun q hq=>by have:=N_own_ge HN.out q hq;have:=HA.out.hb;omega)).setCell HA.out.lt _⟩,⟨HG.out.1,?_⟩,⟨by rw[show m - (c+1)=n by have:=Hn.out;omega];exact HRow.out⟩⟩;have hb1:=blk_on HG.out.2 HB4.out (blk_lt HG.out.2);refine(Below.heap_setCell _ _ _ g1 (fun e=>?_)).trans ((HG5.out.block g1 (blk_lt hb1) (fun e=>?_)).trans hb1)
        ·have h1:=HG.out.1;have e:g1=g:=e;omega
        ·have h1:=N_own_ge HN.out g1 e.symm;have h2:=HA.out.hg;have h3:=HG.out.1;omega
     ·have hctz: ¬ (c:Int)< (m:Int):=by omega
      have:c=m:=by omega
      subst this;have hR:=HRow.out;rw[Nat.sub_self,squeezeRow]at hR;have hpr:part=rr:=Option.some.inj hR;subst hpr;clear hR;go_wp2_with fail
      go_roundg (l0.length - (i+1))
      case measure=>omega
      case rel=>
       exact⟨i+1,_,cs,_,by omega,by omega,by go_num,⟨HA.out.next hlt⟩,HB,HG,HP⟩
   ·have hltz: ¬ (i:Int)< (l0.length:Int):=by omega
    have:i=l0.length:=by omega
    subst this;have hP:=HP.out;rw[List.drop_length,squeezeRows]at hP;have hdr:done=o:=Option.some.inj hP;subst hdr;go_wp2_with fail
    go_ret2;exact⟨_,rfl,HA.out.done,HB.out⟩
def fluxionlaw19_fit.l0:Nat→List (List Bool)→Int→List (List Bool)→Int→Option ((List (List Bool)))
 |0,_,_,_,_=>none
 |k+1,x0,x1,x5,x6=>if x6< (x0.length:Int)then(if x6< 12 then(if 0≤x1 then(if(x1:Int).toNat≤281474976710656 then((some (List.replicate (x1:Int).toNat false:List Bool)).bind fun y666=>(if 0≤x6 then(if x5.length< 5864062014805 then(fluxionlaw19_fit.l0 k x0 x1 (x5++ [((rd_L6 x0 x6).take (min (rd_L6 x0 x6).length y666.length) ++y666.drop (min (rd_L6 x0 x6).length y666.length))]) (wrap64 (x6+1)))else(none))else(none)))else(none))else(none))else(some x5))else(some x5)
def fluxionlaw19_fit.f(k:Nat)(l0:List (List Bool))(a1:Int):Option ((List (List Bool))):=fluxionlaw19_fit.l0 k l0 a1 ([] :List (List Bool)) 0
theorem fluxionlaw19_fit.calls(k:Nat)(A0:Option Addr)(c0:Nat)(l0:List (List Bool))(a1:Int)(r:List (List Bool))(w:World)(hr0:Kd.C (Kd.slice 4 Kd.bool) w A0 l0.length l0)(hc0:l0.length≤c0)(h:fluxionlaw19_fit.f k l0 a1=some r):
  Calls Tryz.prog 25 #[.slice A0 l0.length c0,.int .i64 a1] w fun e w'=> ∃v0_:Value,e= .returned (v0_)∧Kd.S (Kd.slice 4 Kd.bool) 77 w' w.heap.size (fun _=>True) v0_ r∧Below w.heap.size w w':=by
 have HR0:=Aside0.mk hr0;have HC0:=Aside0.mk hc0;clear hr0 hc0;have HB:=Aside0.mk (Below.refl w.heap.size w);have H:=h;clear h;unfold fluxionlaw19_fit.f at H;have H':=Aside0.mk H;clear H;go_enter Tryz.func25,Tryz.ntmps25
 go_wp2
 go_loopg [5,6] k (fun kq v5 v6 w'=> ∃ (x5_1:List (List Bool)) (x6_1:Int),v6= .int .i64 x6_1∧Aside0 (fluxionlaw19_fit.l0 kq l0 a1 x5_1 x6_1=some r)∧Aside0 (kq≤k)∧Aside0 (Kd.S (Kd.slice 4 Kd.bool) 77 w' w.heap.size (fun _=>True) v5 x5_1)∧Aside0 (Below w.heap.size w w'))
 case atStart=>exact⟨(([] :List (List Bool))),(0),eS,H',⟨Nat.le_refl _⟩,⟨by first|exact Kd.S_nil _ _ _ _ _|exact Kd.N_nil _ _ _ _ _|exact Kd.V_nil _ _ _ _ _|exact Kd.Q_nil _ _ _ _ _|exact Kd.R_nil _ _ _ _ _⟩,⟨bQ⟩⟩
 case round=>
  clear H';(try clear c2);(try clear p2);obtain⟨x5_1,x6_1,rfl,HA,HK1,HO_5,HB⟩:=hrel;cases gk with
  |zero=>exact absurd HA.out (by simp[fluxionlaw19_fit.l0])
  |succ k1=>
   have H:=HA.out;clear HA;simp only[fluxionlaw19_fit.l0]at H;by_cases c3:x6_1< (l0.length:Int)
   ·rw[if_pos c3]at H;have c3b0:=decide_eq_true c3;clear c3;by_cases c4:x6_1< 12
    ·rw[if_pos c4]at H;have c4b0:=decide_eq_true c4;clear c4;replace H:=iN H;obtain⟨c5,H⟩:=H;have c5b0:=eq_true c5;have c5b1:=decide_eq_true c5;clear c5;replace H:=iN H;obtain⟨c6,H⟩:=H;have c6b0:=eq_true c6;have c6b1:=decide_eq_true c6;clear c6;obtain⟨y666,hy666⟩: ∃y_:List Bool,y_=(List.replicate (a1:Int).toNat false):=⟨_,rfl⟩;(first|replace H:=by_ hy666 H|rw[←hy666]at H);(try dsimp only at H);have Ny666:=Aside0.mk hy666;clear hy666;replace H:=iN H;obtain⟨c7,H⟩:=H;have c7b0:=decide_eq_true c7;clear c7;obtain⟨y670,hy670⟩: ∃y_:List Bool,y_=((rd_L6 l0 x6_1).take (min (rd_L6 l0 x6_1).length y666.length) ++y666.drop (min (rd_L6 l0 x6_1).length y666.length)):=⟨_,rfl⟩;(first|replace H:=by_ hy670 H|rw[←hy670]at H);(try dsimp only at H);have Ny670:=Aside0.mk hy670;clear hy670;replace H:=iN H;obtain⟨c8,H⟩:=H;have LMc8:=Aside0.mk c8;clear c8;obtain⟨y673,hy673⟩: ∃y_:List (List Bool),y_=(x5_1++ [y670]):=⟨_,rfl⟩;(first|replace H:=by_ hy673 H|rw[←hy673]at H);(try dsimp only at H);have Ny673:=Aside0.mk hy673;clear hy673;have H':=Aside0.mk H;clear H;go_wp2_with (first| (refine gD 19 ?_;refine Kd.R_make Kd.bool _ 4 rfl (N:=19) rfl 77 _ _ rfl a1 rfl rfl Tryz.underlying77 (.bool false) 1 info4 rfl (by decide) (by omega) false (ok:=fun _=>True) (okp:=fun _=>True) rfl (fun _ hk=>hk) trivial (dQ) (Nat.le_trans (Nat.mul_le_mul_right _ (dQ:a1.toNat≤281474976710656)) (by omega)) (Below.refl _ _) (Nat.le_refl _) ?_;intro v667 w9 ho10 hb hg_ hnew_;clear hg_ hnew_;(first|rw[←Ny666.out]at ho10| (simp only[Int.reduceToNat]at ho10;rw[←Ny666.out]at ho10));have HO668:=rL w ho10;replace HO_5:=Aside0.mk (Kd.S_elder' (sX (h:=HO_5.out)) (Kd.R_base ho10) hb);replace HB:=hsQ hb;clear hb ho10;have p669:0≤(x6_1:Int):=dQ;have q669:x6_1< (l0.length:Int):=dQ;obtain⟨ad669,A669_0,c669_0,e669,hx669_0,hl669_0,hi669_0⟩:=at_L6 HR0.out x6_1 p669 q669;cases e669;replace hx669_0:=cE HB.out hx669_0;have HR669_0:=Aside0.mk hi669_0;have HC669_0:=Aside0.mk hl669_0;clear hi669_0 hl669_0;replace p669:=eq_true p669;replace q669:=eq_true q669) | ((with_reducible refine gate_builtin (b:= .copy) (xs:= #[.tmp 20,.tmp 24]) rfl ?_);skip;refine Kd.R_copy (enc:=Value.bool) (h1:=fun _=>rfl) false (w0:=w) w.heap.size rfl (.tmp 20) (.tmp 24) 77 77 4 rfl Tryz.underlying77 (by have h_:=congrArg (Option.map (fun i_=>i_.2.1)) info4;simpa [Option.map_map,Function.comp_def]using h_) v667 y666 (rd_L6 l0 x6_1) _ _ _ (fun _=>True) rfl rfl ?aO ?aR ?aB ?aS ?_;(case aR=>exact cbQ HR669_0 HB);(case aB=>exact bQ);(case aO=>exact(pRQ HO668.out));(case aS=>exact(below_size bQ));intro w11 ho hb hg;change Kd.R Kd.bool 4 w11 w.heap.size (fun _=>True) v667 _ at ho;have hat: ∀ {W_:World},(v667:Value).ownBlock=(v667:Value).ownBlock∨ ∃b,(v667:Value).ownBlock=some b∧W_.heap.size≤b:= .inl rfl;rw[←Ny670.out]at ho;have HO672:=Aside0.mk ho;replace HO_5:=Aside0.mk (Kd.S_after (ok:=(fun _=>True)) (sX (h:=HO_5.out)) hg hat);replace HB:=Aside0.mk hb;clear HO668;clear ho hb hg hat;obtain⟨Ao13,co13,eo13⟩:=Kd.R_slice HO672.out;subst eo13) | ((with_reducible refine gate_builtin (b:= .append) (xs:= #[.tmp 26,.tmp 28]) rfl ?_);at_builtin;refine Kd.S_append (Kd.slice 4 Kd.bool) (w0:=w) w.heap.size rfl (.tmp 26) (.tmp 28) 22 77 (.slice none 0 0) 24 rfl Tryz.underlying22 info77 rfl (by decide) (by omega) u5 x5_1 y670 [.slice Ao13 y670.length co13] (fun _=>True) (fun k_=>some k_=(.slice Ao13 y670.length co13:Value).ownBlock) rfl rfl ?aP (fun k_ hk_=>((Kd.R_mono (ok':=fun k_=>((fun _=>True)) k_∧some k_≠(u5:Value).ownBlock) (Kd.R_apart' (HO672.out) (Kd.S_typed HO_5.out) (by decide)) (fun k_ hk=>⟨trivial,hk.2⟩))).1 k_ hk_.symm) ?aF ?aO ?aB ?aS ?aL ?_;(case aP=>exact Kd.M_row (Kd.R_mono (Kd.R_tight rfl (Kd.R_mono (ok':=fun k_=>((fun _=>True)) k_∧some k_≠(u5:Value).ownBlock) (Kd.R_apart' (HO672.out) (Kd.S_typed HO_5.out) (by decide)) (fun k_ hk=>⟨trivial,hk.2⟩))) (fun _ h_=>h_)));(case aB=>exact bQ);(case aF=>exact(fun _ _=>trivial));(case aO=>exact(sX (h:=Kd.S_mono HO_5.out (fun k_ hk=>⟨trivial,fun e_=>hk.2 e_⟩))));(case aS=>exact(below_size bQ));(case aL=>have:=LMc8.out;omega);intro v674 w12 ho hb hg hat;rw[←Ny673.out]at ho;have HO675:=Aside0.mk ho;replace HB:=Aside0.mk hb;clear HO_5 HO672;clear ho hb hg hat))
     go_roundg k1
     case measure=>have:=HK1.out;omega
     case rel=>exact⟨(y673),(wrap64 (x6_1+1)),eS,H',⟨by have:=HK1.out;omega⟩,⟨sX (h:=HO675.out)⟩,⟨bQ⟩⟩
    ·rw[if_neg c4]at H;have c4b0:=decide_eq_false c4;clear c4;obtain rfl:=Option.some.inj H;go_wp2
     go_ret;exact⟨_,eQ,sX (h:=HO_5.out),bQ⟩
   ·rw[if_neg c3]at H;have c3b0:=decide_eq_false c3;clear c3;obtain rfl:=Option.some.inj H;go_wp2
    go_ret;exact⟨_,eQ,sX (h:=HO_5.out),bQ⟩
end Go.Proofs.YtjjbondlcjnaiaaGreat.PSparseOwn
