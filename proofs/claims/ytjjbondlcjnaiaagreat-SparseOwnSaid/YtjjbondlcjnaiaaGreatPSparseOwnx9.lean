-- written by a program of this session, after the kit's print
import Derived.Test.YtjjbondlcjnaiaaGreatPSparseOwnx2
import Derived.Test.YtjjbondlcjnaiaaGreatPSparseOwnx8
namespace Go.Proofs.YtjjbondlcjnaiaaGreat.PSparseOwn
open Go.RowKit Go.Proofs.YtjjbondlcjnaiaaGreatW.PrintWords Go.Proofs.YtjjbondlcjnaiaaGreatW.PrintLast Go.Proofs.YtjjbondlcjnaiaaGreatW.PrintMore
set_option maxHeartbeats 8000000
set_option maxRecDepth 100000
attribute [local go_sem] max2_int min2_int max_two min_two max_three min_three max_four min_four
set_option linter.unusedVariables false
set_option linter.unusedSimpArgs false
def frac_quotient.f(k:Nat)(a0_0:Bool)(l0_1:List Int)(l1:List Int):Option (Int×Bool×List Int×List Int):=if(l1.length:Int)=0 then((frac_fault.f 11).bind fun bt230=>(some (bt230.1,bt230.2.1,bt230.2.2.1,bt230.2.2.2)))else((nat_Gcd.f k l0_1 l1).bind fun bt238=>((frac_natural.f bt238.1 bt238.2).bind fun t242=>((nat_Div.f k l0_1 t242).bind fun bt245=>((nat_Div.f k l1 t242).bind fun bt252=>((frac_long.f k bt245.1).bind fun t259=>(if t259=true then((frac_fault.f 4).bind fun bt260=>(some (bt260.1,bt260.2.1,bt260.2.2.1,bt260.2.2.2)))else((frac_long.f k bt252.1).bind fun t268=>(if t268=true then((frac_fault.f 4).bind fun bt269=>(some (bt269.1,bt269.2.1,bt269.2.2.1,bt269.2.2.2)))else(if a0_0=true then(some (0,decide ((bt245.1.length:Int) >0),bt245.1,bt252.1))else(some (0,false,bt245.1,bt252.1)))))))))))
theorem c2Q{W:World}{g t:Nat}{a b:Value}(h:W.heap[g]? =some (.cells #[a,b] t (0,0))):W.cell? ⟨g,0,none⟩=some a∧W.cell? ⟨g,1,none⟩=some b∧W.frozen? ⟨g,0,none⟩=false∧W.frozen? ⟨g,1,none⟩=false:=⟨(blk_cell h 0).trans rfl,(blk_cell h 1).trans rfl,blk_frozen h 0,blk_frozen h 1⟩
theorem blk4{w:World}{g t:Nat}{x0 x1 x2 x3:Value}(h:w.heap[g]? =some (.cells #[x0,x1,x2,x3] t (0,0)))(a b c d:Value):
  ((((w.setCell ⟨g,0,none⟩ a).setCell ⟨g,1,none⟩ b).setCell ⟨g,2,none⟩ c).setCell ⟨g,3,none⟩ d).heap[g]? =some (.cells #[a,b,c,d] t (0,0)):=blk_put (blk_put (blk_put (blk_put h 0 a rfl) 1 b rfl) 2 c rfl) 3 d rfl
theorem blk_on{B:Nat}{w w':World}{g:Nat}{o:Obj}(h:w.heap[g]? =some o)(hb:Below B w w')(hB:g< B):w'.heap[g]? =some o:=(hb.block g hB).trans h
theorem rat_ret{w w7 w8:World}{e b1 b2 g:Nat}{v2 v3:Value}{x y:List Int}{r1:Int}{r2:Bool}(h2:Kd.V (Kd.int .u32) e w8 b1 (fun k=>w7.heap.size≤k) v2 x)(h3:Kd.V (Kd.int .u32) e w8 b2 (fun k=>w7.heap.size≤k) v3 y)(hb:Below w.heap.size w w8)(hg:w.heap.size≤g)(hg7:g< w7.heap.size)(h7:w.heap.size≤w7.heap.size):
  ∃u2 u3:Value,Ending.returned (.agg #[.int .i64 r1,.bool r2,v2,v3])= .returned (.agg #[.int .i64 r1,.bool r2,u2,u3])∧Kd.V (Kd.int .u32) e ((((w8.setCell ⟨g,0,none⟩ (.int .i64 r1)).setCell ⟨g,1,none⟩ (.bool r2)).setCell ⟨g,2,none⟩ v2).setCell ⟨g,3,none⟩ v3) w.heap.size (fun k=>w.heap.size≤k) u2 x∧Kd.V (Kd.int .u32) e ((((w8.setCell ⟨g,0,none⟩ (.int .i64 r1)).setCell ⟨g,1,none⟩ (.bool r2)).setCell ⟨g,2,none⟩ v2).setCell ⟨g,3,none⟩ v3) w.heap.size (fun k=>w.heap.size≤k) u3 y∧Below w.heap.size w ((((w8.setCell ⟨g,0,none⟩ (.int .i64 r1)).setCell ⟨g,1,none⟩ (.bool r2)).setCell ⟨g,2,none⟩ v2).setCell ⟨g,3,none⟩ v3):=by
 have hf: ∀k,w7.heap.size≤k→k≠g:=fun k hk e=>by omega
 have hm: ∀k,w7.heap.size≤k→w.heap.size≤k:=fun k hk=>Nat.le_trans h7 hk
 exact⟨_,_,rfl,Kd.V_mono (Kd.V_far (p:=⟨g,3,none⟩) (Kd.V_far (p:=⟨g,2,none⟩) (Kd.V_far (p:=⟨g,1,none⟩) (Kd.V_far (p:=⟨g,0,none⟩) h2 hf _) hf _) hf _) hf _) hm,Kd.V_mono (Kd.V_far (p:=⟨g,3,none⟩) (Kd.V_far (p:=⟨g,2,none⟩) (Kd.V_far (p:=⟨g,1,none⟩) (Kd.V_far (p:=⟨g,0,none⟩) h3 hf _) hf _) hf _) hf _) hm,(((hb.setCell (p:=⟨g,0,none⟩) hg _).setCell (p:=⟨g,1,none⟩) hg _).setCell (p:=⟨g,2,none⟩) hg _).setCell (p:=⟨g,3,none⟩) hg _⟩
theorem frac_quotient.calls(k:Nat)(a0:Bool)(A1:Option Addr)(c1:Nat)(l1:List Int)(A2:Option Addr)(c2:Nat)(l2:List Int)(r1:Int)(r2:Bool)(r3 r4:List Int)(w:World)(hr1:Kd.C (Kd.int .u32) w A1 l1.length l1)(hc1:l1.length≤c1)(hr2:Kd.C (Kd.int .u32) w A2 l2.length l2)(hc2:l2.length≤c2)(h:frac_quotient.f k a0 l1 l2=some (r1,r2,r3,r4)):
  Calls Tryz.prog 91 #[.agg #[.bool a0,.slice A1 l1.length c1],.slice A2 l2.length c2] w fun e w'=> ∃v2_ v3_:Value,e= .returned (.agg #[.int .i64 r1,.bool r2,v2_,v3_])∧Kd.V (Kd.int .u32) 60 w' w.heap.size (fun k_=>(w.heap.size≤k_)) v2_ r3∧Kd.V (Kd.int .u32) 60 w' w.heap.size (fun k_=>(w.heap.size≤k_)) v3_ r4∧Below w.heap.size w w':=by
 have hu59:=Tryz.underlying59;have hu126:=Tryz.underlying126;have HR1:=Aside0.mk hr1;have HR2:=Aside0.mk hr2;have HC1:=Aside0.mk hc1;have HC2:=Aside0.mk hc2;clear hr1 hr2 hc1 hc2;unfold frac_quotient.f at h;by_cases c5:(l2.length:Int)=0
 ·rw[if_pos c5]at h;have c5b:((l2.length:Int)==0)=true:=beq_iff_eq.mpr c5;clear c5;obtain⟨⟨_,_,_,_⟩,i1,h⟩:=Option.bind_eq_some_iff.1 h;cases i1;simp only[Option.some.injEq,Prod.mk.injEq]at h;obtain⟨rfl,rfl,rfl,rfl⟩:=h;go_enter Tryz.func91,Tryz.ntmps91
  go_wp2_with (first
   | (refine gD 2 ?_;refine bx_ 2 #[.bool a0,.slice A1 l1.length c1] 126 ?_;intro g1 hg w1 hbox hb;have G1:=Aside0.mk hg;have K1:=Aside0.mk hbox;have HB1:=Aside0.mk hb;clear hg hbox hb)
   | (refine gD 4 ?_;refine bx_ 4 #[.int .i64 0,.bool false,.slice none 0 0,.slice none 0 0] 59 ?_;intro g2 hg w2 hbox hb;have G2:=Aside0.mk hg;have K2:=Aside0.mk hbox;have HB2:=Aside0.mk hb;clear hg hbox hb;have L1:=blk_lt K1.out;have L2:=blk_lt K2.out;have S1:=HB1.out.size;have S2:=HB2.out.size;have KK:=Aside0.mk (And.intro (blk_on K1.out HB2.out L1) K2.out);have HBw:=Aside0.mk (HB1.out.trans (HB2.out.mono S1));have GG:=Aside0.mk (show w.heap.size≤g1∧w.heap.size≤g2∧g1< w2.heap.size∧g2< w2.heap.size from by have:=G1.out;have:=G2.out;omega);clear L1 L2 S1 S2 K1 K2 HB1 HB2 G1 G2;obtain⟨x1,x2,x3,x4⟩:=c2Q KK.out.1))
  refine(frac_fault.calls 11 _ _ _ _ _ rfl).mono ?_;rintro e w8 ⟨v2,v3,rfl,hv2,hv3,hb8⟩;obtain⟨A8,c8,rfl⟩:=Kd.R_slice hv2;obtain⟨A9,c9,rfl⟩:=Kd.R_slice hv3;have K8:=Aside0.mk (blk_on KK.out.2 hb8 GG.out.2.2.2);have HV2:=Aside0.mk (Kd.R_V (base':=0) (Kd.R_mono (Kd.R_bound hv2) (fun k hk=>hk.2.1)));have HV3:=Aside0.mk (Kd.R_V (base':=0) (Kd.R_mono (Kd.R_bound hv3) (fun k hk=>hk.2.1)));have HB8:=Aside0.mk (HBw.out.trans (hb8.mono HBw.out.size));clear hv2 hv3 hb8 x1 x2 x3 x4;obtain⟨x1,x2,x3,x4,x5,x6,x7,x8⟩:=c4Q K8.out;go_wp2_with fail
  refine bodyPost_ret (results_cell_row rfl _ _ g2 59 #[.int .i64 11,.bool false,.slice A8 ([] :List Int).length c8,.slice A9 ([] :List Int).length c9] (0,0) _ rfl (blk4 K8.out _ _ _ _) Tryz.underlying59 rfl (by kernel_rfl)) rfl ?_;exact rat_ret HV2.out HV3.out HB8.out GG.out.2.1 GG.out.2.2.2 HBw.out.size
 ·rw[if_neg c5]at h;have c5b:((l2.length:Int)==0)=false:=beq_eq_false_iff_ne.mpr c5;have c5c: ¬ (l2= []):=fun h_=>c5 (by rw[h_];rfl)
  clear c5;obtain⟨⟨gd,ge⟩,i1,h⟩:=Option.bind_eq_some_iff.1 h;obtain⟨t,i2,h⟩:=Option.bind_eq_some_iff.1 h;obtain⟨⟨n1,n2,n3⟩,i3,h⟩:=Option.bind_eq_some_iff.1 h;obtain⟨⟨d1,d2,d3⟩,i4,h⟩:=Option.bind_eq_some_iff.1 h;obtain⟨b1,i5,h⟩:=Option.bind_eq_some_iff.1 h;have I1:=Aside0.mk i1;have I2:=Aside0.mk i2;have I3:=Aside0.mk i3;have I4:=Aside0.mk i4;have I5:=Aside0.mk i5;have H:=Aside0.mk h;clear i1 i2 i3 i4 i5 h;go_enter Tryz.func91,Tryz.ntmps91
  go_wp2_with (first
   | (refine gD 2 ?_;refine bx_ 2 #[.bool a0,.slice A1 l1.length c1] 126 ?_;intro g1 hg w1 hbox hb;have G1:=Aside0.mk hg;have K1:=Aside0.mk hbox;have HB1:=Aside0.mk hb;clear hg hbox hb)
   | (refine gD 4 ?_;refine bx_ 4 #[.int .i64 0,.bool false,.slice none 0 0,.slice none 0 0] 59 ?_;intro g2 hg w2 hbox hb;have G2:=Aside0.mk hg;have K2:=Aside0.mk hbox;have HB2:=Aside0.mk hb;clear hg hbox hb;have L1:=blk_lt K1.out;have L2:=blk_lt K2.out;have S1:=HB1.out.size;have S2:=HB2.out.size;have KK:=Aside0.mk (And.intro (blk_on K1.out HB2.out L1) K2.out);have HBw:=Aside0.mk (HB1.out.trans (HB2.out.mono S1));have GG:=Aside0.mk (show w.heap.size≤g1∧w.heap.size≤g2∧g1< w2.heap.size∧g2< w2.heap.size from by have:=G1.out;have:=G2.out;omega);clear L1 L2 S1 S2 K1 K2 HB1 HB2 G1 G2;obtain⟨x1,x2,x3,x4⟩:=c2Q KK.out.1))
  have hs1:Kd.V (Kd.int .u32) 60 w2 w2.heap.size (fun k=>k< w2.heap.size) (.slice A1 l1.length c1) l1:=Kd.V_mk HC1.out (Kd.C_F (Kd.heap_int .u32) (Kd.C_below HR1.out HBw.out));have hs2:Kd.V (Kd.int .u32) 60 w2 w2.heap.size (fun k=>k< w2.heap.size) (.slice A2 l2.length c2) l2:=Kd.V_mk HC2.out (Kd.C_F (Kd.heap_int .u32) (Kd.C_below HR2.out HBw.out));refine(nat_Gcd.calls k _ _ _ l1 _ _ _ l2 gd ge w2 hs1 hs2 I1.out).mono ?_;rintro e w3 ⟨v3,rfl,ho,hb⟩;obtain⟨A3,c3,rfl⟩:=Kd.R_slice ho;have HG:=Aside0.mk (Kd.R_V (base':=0) ho);have K3:=Aside0.mk (And.intro (blk_on KK.out.1 hb GG.out.2.2.1) (blk_on KK.out.2 hb GG.out.2.2.2));have S3:=Aside0.mk hb.size;have HB3:=Aside0.mk (HBw.out.trans (hb.mono HBw.out.size));clear ho hb hs1 hs2 KK HBw x1 x2 x3 x4;obtain⟨x1,x2,x3,x4⟩:=c2Q K3.out.1;go_wp2_with fail
  refine(frac_natural.calls _ _ _ gd ge t w3 HG.out I2.out).mono ?_;rintro e w4 ⟨v4,rfl,ho,hb⟩;obtain⟨A4,c4,rfl⟩:=Kd.V_slice ho;have HT:=Aside0.mk ho;have K4:=Aside0.mk (And.intro (blk_on K3.out.1 hb (Nat.lt_of_lt_of_le GG.out.2.2.1 S3.out)) (blk_on K3.out.2 hb (Nat.lt_of_lt_of_le GG.out.2.2.2 S3.out)));have S4:=Aside0.mk (Nat.le_trans S3.out hb.size);have HB4:=Aside0.mk (HB3.out.trans (hb.mono HB3.out.size));clear ho hb K3 S3 HB3 HG x1 x2 x3 x4;obtain⟨x1,x2,x3,x4⟩:=c2Q K4.out.1;go_wp2_with fail
  refine(nat_Div.calls k _ _ l1 _ _ t n1 n2 n3 w4 (Kd.C_below HR1.out HB4.out) HC1.out (Kd.V_reads' HT.out).2.2 (Kd.V_reads' HT.out).2.1 I3.out).mono ?_;rintro e w5 ⟨v5,v5',rfl,ho,_,hb⟩;obtain⟨A5,c5,rfl⟩:=Kd.V_slice ho;have HN:=Aside0.mk ho;have HT5:=Aside0.mk (Kd.V_below HT.out hb);have K5:=Aside0.mk (And.intro (blk_on K4.out.1 hb (Nat.lt_of_lt_of_le GG.out.2.2.1 S4.out)) (blk_on K4.out.2 hb (Nat.lt_of_lt_of_le GG.out.2.2.2 S4.out)));have S5:=Aside0.mk (Nat.le_trans S4.out hb.size);have HB5:=Aside0.mk (HB4.out.trans (hb.mono HB4.out.size));clear ho hb K4 HB4 HT x1 x2 x3 x4;obtain⟨x1,x2,x3,x4⟩:=c2Q K5.out.1;go_wp2_with fail
  refine(nat_Div.calls k _ _ l2 _ _ t d1 d2 d3 w5 (Kd.C_below HR2.out HB5.out) HC2.out (Kd.V_reads' HT5.out).2.2 (Kd.V_reads' HT5.out).2.1 I4.out).mono ?_;rintro e w6 ⟨v6,v6',rfl,ho,_,hb⟩;obtain⟨A6,c6,rfl⟩:=Kd.V_slice ho;have HD:=Aside0.mk (Kd.V_mono ho (fun k hk=>(show w2.heap.size≤k from Nat.le_trans S5.out hk)));have HN6:=Aside0.mk (Kd.V_mono (Kd.V_below HN.out hb) (fun k hk=>(show w2.heap.size≤k from Nat.le_trans S4.out hk)));have K6:=Aside0.mk (And.intro (blk_on K5.out.1 hb (Nat.lt_of_lt_of_le GG.out.2.2.1 S5.out)) (blk_on K5.out.2 hb (Nat.lt_of_lt_of_le GG.out.2.2.2 S5.out)));have S6:=Aside0.mk (Nat.le_trans S5.out hb.size);have HB6:=Aside0.mk (HB5.out.trans (hb.mono HB5.out.size));have W2:=Aside0.mk (show w.heap.size≤w2.heap.size from Nat.le_trans GG.out.2.1 (Nat.le_of_lt GG.out.2.2.2));clear ho hb K5 S4 S5 HB5 HN HT5 x1 x2 x3 x4;obtain⟨x1,x2,x3,x4⟩:=c2Q K6.out.1;go_wp2_with fail
  refine(frac_long.calls k _ _ n1 b1 w6 (Kd.V_reads' HN6.out).2.2 (Kd.V_reads' HN6.out).2.1 I5.out).mono ?_;rintro e w7 ⟨rfl,hb⟩;have HD7:=Aside0.mk (Kd.V_below HD.out hb);have HN7:=Aside0.mk (Kd.V_below HN6.out hb);have K7:=Aside0.mk (And.intro (blk_on K6.out.1 hb (Nat.lt_of_lt_of_le GG.out.2.2.1 S6.out)) (blk_on K6.out.2 hb (Nat.lt_of_lt_of_le GG.out.2.2.2 S6.out)));have S7:=Aside0.mk (Nat.le_trans S6.out hb.size);have HB7:=Aside0.mk (HB6.out.trans (hb.mono HB6.out.size));clear hb K6 S6 HB6 HN6 HD x1 x2 x3 x4;obtain⟨x1,x2,x3,x4⟩:=c2Q K7.out.1;cases b1 with
  |true=>
   have h:=H.out;rw[if_pos rfl]at h;obtain⟨⟨_,_,_,_⟩,i1,h⟩:=Option.bind_eq_some_iff.1 h;cases i1;simp only[Option.some.injEq,Prod.mk.injEq]at h;obtain⟨rfl,rfl,rfl,rfl⟩:=h;clear H;go_wp2_with fail
   refine(frac_fault.calls 4 _ _ _ _ _ rfl).mono ?_;rintro e w8 ⟨v2,v3,rfl,hv2,hv3,hb8⟩;obtain⟨A8,c8,rfl⟩:=Kd.R_slice hv2;obtain⟨A9,c9,rfl⟩:=Kd.R_slice hv3;have K8:=Aside0.mk (blk_on K7.out.2 hb8 (Nat.lt_of_lt_of_le GG.out.2.2.2 S7.out));have HV2:=Aside0.mk (Kd.R_V (base':=0) (Kd.R_mono (Kd.R_bound hv2) (fun k hk=>hk.2.1)));have HV3:=Aside0.mk (Kd.R_V (base':=0) (Kd.R_mono (Kd.R_bound hv3) (fun k hk=>hk.2.1)));have HB8:=Aside0.mk (HB7.out.trans (hb8.mono HB7.out.size));clear hv2 hv3 hb8 x1 x2 x3 x4;obtain⟨x1,x2,x3,x4,x5,x6,x7,x8⟩:=c4Q K8.out;go_wp2_with fail
   refine bodyPost_ret (results_cell_row rfl _ _ g2 59 #[.int .i64 4,.bool false,.slice A8 ([] :List Int).length c8,.slice A9 ([] :List Int).length c9] (0,0) _ rfl (blk4 K8.out _ _ _ _) Tryz.underlying59 rfl (by kernel_rfl)) rfl ?_;exact rat_ret HV2.out HV3.out HB8.out GG.out.2.1 (Nat.lt_of_lt_of_le GG.out.2.2.2 S7.out) HB7.out.size
  |false=>
   have h:=H.out;rw[if_neg (by decide)]at h;obtain⟨b2,i6,h⟩:=Option.bind_eq_some_iff.1 h;have I6:=Aside0.mk i6;have H:=Aside0.mk h;clear i6 h;go_wp2_with fail
   refine(frac_long.calls k _ _ d1 b2 w7 (Kd.V_reads' HD7.out).2.2 (Kd.V_reads' HD7.out).2.1 I6.out).mono ?_;rintro e w9 ⟨rfl,hb⟩;have HD9:=Aside0.mk (Kd.V_below HD7.out hb);have HN9:=Aside0.mk (Kd.V_below HN7.out hb);have K9:=Aside0.mk (And.intro (blk_on K7.out.1 hb (Nat.lt_of_lt_of_le GG.out.2.2.1 S7.out)) (blk_on K7.out.2 hb (Nat.lt_of_lt_of_le GG.out.2.2.2 S7.out)));have S9:=Aside0.mk (Nat.le_trans S7.out hb.size);have HB9:=Aside0.mk (HB7.out.trans (hb.mono HB7.out.size));clear hb K7 S7 HB7 HN7 HD7 x1 x2 x3 x4;obtain⟨x1,x2,x3,x4⟩:=c2Q K9.out.1;cases b2 with
   |true=>
    have h:=H.out;rw[if_pos rfl]at h;obtain⟨⟨_,_,_,_⟩,i1,h⟩:=Option.bind_eq_some_iff.1 h;cases i1;simp only[Option.some.injEq,Prod.mk.injEq]at h;obtain⟨rfl,rfl,rfl,rfl⟩:=h;clear H;go_wp2_with fail
    refine(frac_fault.calls 4 _ _ _ _ _ rfl).mono ?_;rintro e w8 ⟨v2,v3,rfl,hv2,hv3,hb8⟩;obtain⟨A8,c8,rfl⟩:=Kd.R_slice hv2;obtain⟨A9,c9,rfl⟩:=Kd.R_slice hv3;have K8:=Aside0.mk (blk_on K9.out.2 hb8 (Nat.lt_of_lt_of_le GG.out.2.2.2 S9.out));have HV2:=Aside0.mk (Kd.R_V (base':=0) (Kd.R_mono (Kd.R_bound hv2) (fun k hk=>hk.2.1)));have HV3:=Aside0.mk (Kd.R_V (base':=0) (Kd.R_mono (Kd.R_bound hv3) (fun k hk=>hk.2.1)));have HB8:=Aside0.mk (HB9.out.trans (hb8.mono HB9.out.size));clear hv2 hv3 hb8 x1 x2 x3 x4;obtain⟨x1,x2,x3,x4,x5,x6,x7,x8⟩:=c4Q K8.out;go_wp2_with fail
    refine bodyPost_ret (results_cell_row rfl _ _ g2 59 #[.int .i64 4,.bool false,.slice A8 ([] :List Int).length c8,.slice A9 ([] :List Int).length c9] (0,0) _ rfl (blk4 K8.out _ _ _ _) Tryz.underlying59 rfl (by kernel_rfl)) rfl ?_;exact rat_ret HV2.out HV3.out HB8.out GG.out.2.1 (Nat.lt_of_lt_of_le GG.out.2.2.2 S9.out) HB9.out.size
   |false=>
    have h:=H.out;rw[if_neg (by decide)]at h;obtain⟨y1,y2,y3,y4,y5,y6,y7,y8⟩:=c4Q K9.out.2;obtain⟨bb,hbb⟩: ∃bb,decide ((n1.length:Int) >0)=bb:=⟨_,rfl⟩;rw[hbb]at h;have hb1:decide ((0:Int)< (n1.length:Int))=bb:=hbb;have hb2:decide (0< n1.length)=bb:=by rw[←hb1];congr 1;exact propext (by omega)
    clear H hbb;cases a0 with
    |true=>
     rw[if_pos rfl]at h;simp only[Option.some.injEq,Prod.mk.injEq]at h;obtain⟨rfl,rfl,rfl,rfl⟩:=h;go_wp2_with fail
     refine bodyPost_ret (results_cell_row rfl _ _ g2 59 #[.int .i64 0,.bool bb,.slice A5 n1.length c5,.slice A6 d1.length c6] (0,0) _ rfl (blk4 K9.out.2 _ _ _ _) Tryz.underlying59 rfl (by kernel_rfl)) rfl ?_;exact rat_ret HN9.out HD9.out HB9.out GG.out.2.1 GG.out.2.2.2 W2.out
    |false=>
     rw[if_neg (by decide)]at h;simp only[Option.some.injEq,Prod.mk.injEq]at h;obtain⟨rfl,rfl,rfl,rfl⟩:=h;go_wp2_with fail
     refine bodyPost_ret (results_cell_row rfl _ _ g2 59 #[.int .i64 0,.bool false,.slice A5 n1.length c5,.slice A6 d1.length c6] (0,0) _ rfl (blk4 K9.out.2 _ _ _ _) Tryz.underlying59 rfl (by kernel_rfl)) rfl ?_;exact rat_ret HN9.out HD9.out HB9.out GG.out.2.1 GG.out.2.2.2 W2.out
def frac_Of.f(k:Nat)(a0:Int)(a1:Int):Option (Int×Bool×List Int×List Int×Int):=(frac_size.f k a0).bind fun bt248=>((frac_size.f k a1).bind fun bt252=>((frac_quotient.f k (bt248.1 !=bt252.1) bt248.2 bt252.2).bind fun bt256=>(some (bt256.1,bt256.2.1,bt256.2.2.1,bt256.2.2.2,0))))
theorem frac_Of.calls(k:Nat)(a0:Int)(a1:Int)(r1:Int)(r2:Bool)(r3:List Int)(r4:List Int)(r5:Int)(w:World)(h:frac_Of.f k a0 a1=some (r1,r2,r3,r4,r5)):
  Calls Tryz.prog 70 #[.int .i64 a0,.int .i64 a1] w fun e w'=> ∃v2_ v3_:Value,e= .returned (.tuple #[.agg #[.int .i64 r1,.bool r2,v2_,v3_],.int .i64 r5])∧Kd.V (Kd.int .u32) 60 w' w.heap.size (fun k_=>(w.heap.size≤k_)) v2_ r3∧Kd.V (Kd.int .u32) 60 w' w.heap.size (fun k_=>(w.heap.size≤k_)) v3_ r4∧Below w.heap.size w w':=by
 have hu59:=Tryz.underlying59;have hu126:=Tryz.underlying126;have HB:=Aside0.mk (Below.refl w.heap.size w);have H:=h;clear h;unfold frac_Of.f at H;obtain⟨⟨t248,t249⟩,A3,H⟩:=bO H;(try dsimp only at H);obtain⟨⟨t252,t253⟩,A4,H⟩:=bO H;(try dsimp only at H);obtain⟨⟨t256,t257,t258,t261⟩,A5,H⟩:=bO H;(try dsimp only at H);simp only[Option.some.injEq,Prod.mk.injEq]at H;obtain⟨rfl,rfl,rfl,rfl,rfl⟩:=H;go_enter Tryz.func70,Tryz.ntmps70
 go_wp2_with (first| (refine gD 4 ?_;refine bx_ 4 #[.int .i64 0,.bool false,.slice none 0 0,.slice none 0 0] 59 ?_;intro gb247 hg w6 hbox hb;have BK247:=Aside0.mk hbox;have GW247:=Aside0.mk (gQ w hg);have GE247:=Aside0.mk (gQ w hg);replace HB:=hsQ hb;clear hb hbox hg) | (refine gF 90 ?_;refine gl_ (some 12) Tryz.func90 #[.int .i64 a0] ?_;(with_reducible refine(frac_size.calls k a0 t248 t249 _ A3.out).mono ?_);rintro e w7 ⟨v250,rfl,ho0,hb⟩;refine⟨_,rfl,?_⟩;have HO251:=Aside0.mk (Kd.V_lower (Kd.V_mono (ok':=fun k_=>(w.heap.size≤k_)∧k_≠gb247) ho0 (fun k_ hk_=>⟨(Nat.le_trans (below_size bQ) hk_),(Kd.freshB (kQ BK247.out) k_ hk_)⟩)) (below_size bQ));replace BK247:=kB BK247 hb;replace HB:=hsQ hb;(try clear hb);(try clear hb2);(try clear hk);(try clear hi);(try clear ho0)) | (refine gF 90 ?_;refine gl_ (some 17) Tryz.func90 #[.int .i64 a1] ?_;(with_reducible refine(frac_size.calls k a1 t252 t253 _ A4.out).mono ?_);rintro e w8 ⟨v254,rfl,ho0,hb⟩;refine⟨_,rfl,?_⟩;have HO255:=Aside0.mk (Kd.V_lower (Kd.V_mono (ok':=fun k_=>(w.heap.size≤k_)∧k_≠gb247) ho0 (fun k_ hk_=>⟨(Nat.le_trans (below_size bQ) hk_),(Kd.freshB (kQ BK247.out) k_ hk_)⟩)) (below_size bQ));replace HO251:=vB HO251 hb;replace BK247:=kB BK247 hb;replace HB:=hsQ hb;(try clear hb);(try clear hb2);(try clear hk);(try clear hi);(try clear ho0);obtain⟨Ao9,co9,eo9⟩:=Kd.V_slice HO251.out;subst eo9;obtain⟨Ao10,co10,eo10⟩:=Kd.V_slice HO255.out;subst eo10) | (refine gF 91 ?_;refine gl_ (some 26) Tryz.func91 #[.agg #[.bool (t248 !=t252),.slice Ao9 t249.length co9],.slice Ao10 t253.length co10] ?_;(with_reducible refine(frac_quotient.calls k (t248 !=t252) _ _ t249 _ _ t253 t256 t257 t258 t261 _ (cQ ((Kd.V_reads' HO251.out).2.2)) ((Kd.V_reads' HO251.out).2.1) (cQ ((Kd.V_reads' HO255.out).2.2)) ((Kd.V_reads' HO255.out).2.1) A5.out).mono ?_);rintro e w11 ⟨v259,v262,rfl,ho0,ho1,hb⟩;refine⟨_,rfl,?_⟩;have HO260:=Aside0.mk (Kd.V_lower (Kd.V_mono (ok':=fun k_=>(w.heap.size≤k_)∧k_≠gb247) ho0 (fun k_ hk_=>⟨(Nat.le_trans (below_size bQ) hk_),(Kd.freshB (kQ BK247.out) k_ hk_)⟩)) (below_size bQ));have HO263:=Aside0.mk (Kd.V_lower (Kd.V_mono (ok':=fun k_=>(w.heap.size≤k_)∧k_≠gb247) ho1 (fun k_ hk_=>⟨(Nat.le_trans (below_size bQ) hk_),(Kd.freshB (kQ BK247.out) k_ hk_)⟩)) (below_size bQ));replace HO251:=vB HO251 hb;replace HO255:=vB HO255 hb;replace BK247:=kB BK247 hb;replace HB:=hsQ hb;(try clear hb);(try clear hb2);(try clear hk);(try clear hi);(try clear ho0);(try clear ho1);obtain⟨_,_,_,_,_,_,_,_⟩:=c4Q BK247.out;obtain⟨Ao13,co13,eo13⟩:=Kd.V_slice HO260.out;subst eo13;obtain⟨Ao14,co14,eo14⟩:=Kd.V_slice HO263.out;subst eo14))
 refine bodyPost_ret (results_ct rfl _ _ gb247 59 #[.int .i64 t256,.bool t257,.slice Ao13 t258.length co13,.slice Ao14 t261.length co14] (0,0) _ rfl (bU 3 (h:=bU 2 (h:=bU 1 (h:=bU 0 (h:=bV (h:=BK247.out)))))) Tryz.underlying59 rfl (by kernel_rfl)) rfl ?_;exact⟨_,_,eQ,vX (h:=Kd.V_mono (vFo (Kd.V_mono HO260.out (fun k_ hk=>(⟨hk,hk.2⟩:_∧k_≠gb247))) (fun _ hk=>hk.2)) (fun _ hk=>hk.1.1)),vX (h:=Kd.V_mono (vFo (Kd.V_mono HO263.out (fun k_ hk=>(⟨hk,hk.2⟩:_∧k_≠gb247))) (fun _ hk=>hk.2)) (fun _ hk=>hk.1.1)),bQ⟩
def sparse_whole.f(k:Nat)(a0:Int):Option (Int×Bool×List Int×List Int):=(frac_Of.f k a0 1).bind fun bt265=>(some (bt265.1,bt265.2.1,bt265.2.2.1,bt265.2.2.2.1))
theorem sparse_whole.calls(k:Nat)(a0:Int)(r1:Int)(r2:Bool)(r3:List Int)(r4:List Int)(w:World)(h:sparse_whole.f k a0=some (r1,r2,r3,r4)):
  Calls Tryz.prog 43 #[.int .i64 a0] w fun e w'=> ∃v2_ v3_:Value,e= .returned (.agg #[.int .i64 r1,.bool r2,v2_,v3_])∧Kd.V (Kd.int .u32) 60 w' w.heap.size (fun k_=>(w.heap.size≤k_)) v2_ r3∧Kd.V (Kd.int .u32) 60 w' w.heap.size (fun k_=>(w.heap.size≤k_)) v3_ r4∧Below w.heap.size w w':=by
 have hu59:=Tryz.underlying59;have HB:=Aside0.mk (Below.refl w.heap.size w);have H:=h;clear h;unfold sparse_whole.f at H;obtain⟨⟨t265,t266,t267,t270,t273⟩,A2,H⟩:=bO H;(try dsimp only at H);simp only[Option.some.injEq,Prod.mk.injEq]at H;obtain⟨rfl,rfl,rfl,rfl⟩:=H;go_enter Tryz.func43,Tryz.ntmps43
 go_wp2_with (first| (refine gD 2 ?_;refine bx_ 2 #[.int .i64 0,.bool false,.slice none 0 0,.slice none 0 0] 59 ?_;intro gb264 hg w3 hbox hb;have BK264:=Aside0.mk hbox;have GW264:=Aside0.mk (gQ w hg);have GE264:=Aside0.mk (gQ w hg);replace HB:=hsQ hb;clear hb hbox hg) | (refine gF 70 ?_;refine gl_ (some 7) Tryz.func70 #[.int .i64 a0,.int .i64 1] ?_;(with_reducible refine(frac_Of.calls k a0 1 t265 t266 t267 t270 t273 _ A2.out).mono ?_);rintro e w4 ⟨v268,v271,rfl,ho0,ho1,hb⟩;refine⟨_,rfl,?_⟩;have HO269:=Aside0.mk (Kd.V_lower (Kd.V_mono (ok':=fun k_=>(w.heap.size≤k_)∧k_≠gb264) ho0 (fun k_ hk_=>⟨(Nat.le_trans (below_size bQ) hk_),(Kd.freshB (kQ BK264.out) k_ hk_)⟩)) (below_size bQ));have HO272:=Aside0.mk (Kd.V_lower (Kd.V_mono (ok':=fun k_=>(w.heap.size≤k_)∧k_≠gb264) ho1 (fun k_ hk_=>⟨(Nat.le_trans (below_size bQ) hk_),(Kd.freshB (kQ BK264.out) k_ hk_)⟩)) (below_size bQ));replace BK264:=kB BK264 hb;replace HB:=hsQ hb;(try clear hb);(try clear hb2);(try clear hk);(try clear hi);(try clear ho0);(try clear ho1)) | (refine gD 3 ?_;refine bx_ 3 #[.int .i64 0,.bool false,.slice none 0 0,.slice none 0 0] 59 ?_;intro gb274 hg w5 hbox hb;have BK274:=Aside0.mk hbox;have GW274:=Aside0.mk (gQ w hg);have GE274:=Aside0.mk (gQ w hg);have NB264_274:=Aside0.mk (lQ hg (kQ BK264.out));have NB274_264:=Aside0.mk (mQ' hg (kQ BK264.out));replace HO269:=Aside0.mk (Kd.V_below (Kd.V_elderB (pVQ HO269.out) gb274 (Nat.le_of_eq hg.symm)) hb);replace HO272:=Aside0.mk (Kd.V_below (Kd.V_elderB (pVQ HO272.out) gb274 (Nat.le_of_eq hg.symm)) hb);replace BK264:=kB BK264 hb;replace HB:=hsQ hb;clear hb hbox hg;have hnb6:=NB274_264.out;have hnc6:=NB264_274.out;obtain⟨_,_,_,_,_,_,_,_⟩:=c4Q BK274.out;obtain⟨Ao8,co8,eo8⟩:=Kd.V_slice HO269.out;subst eo8;obtain⟨Ao9,co9,eo9⟩:=Kd.V_slice HO272.out;subst eo9;obtain⟨_,_,_,_,_,_,_,_⟩:=c4Q BK264.out))
 refine bodyPost_ret (results_cell_row rfl _ _ gb264 59 #[.int .i64 t265,.bool t266,.slice Ao8 t267.length co8,.slice Ao9 t270.length co9] (0,0) _ rfl (by(with_reducible repeat(first|refine blk_drewN ?_ _|refine blk_drew ?_|refine blk_alloc ?_ _));refine blk_put (cs:= #[.int .i64 t265,.bool t266,.slice Ao8 t267.length co8,.slice none 0 0]) ?_ 3 _ rfl;(with_reducible repeat(first|refine blk_drewN ?_ _|refine blk_drew ?_|refine blk_alloc ?_ _));refine blk_put (cs:= #[.int .i64 t265,.bool t266,.slice none 0 0,.slice none 0 0]) ?_ 2 _ rfl;(with_reducible repeat(first|refine blk_drewN ?_ _|refine blk_drew ?_|refine blk_alloc ?_ _));refine blk_put (cs:= #[.int .i64 t265,.bool false,.slice none 0 0,.slice none 0 0]) ?_ 1 _ rfl;(with_reducible repeat(first|refine blk_drewN ?_ _|refine blk_drew ?_|refine blk_alloc ?_ _));refine blk_put (cs:= #[.int .i64 0,.bool false,.slice none 0 0,.slice none 0 0]) ?_ 0 _ rfl;(with_reducible repeat(first|refine blk_drewN ?_ _|refine blk_drew ?_|refine blk_alloc ?_ _));refine blk_far ?_ NB264_274.out _;(with_reducible repeat(first|refine blk_drewN ?_ _|refine blk_drew ?_|refine blk_alloc ?_ _));refine blk_far ?_ NB264_274.out _;(with_reducible repeat(first|refine blk_drewN ?_ _|refine blk_drew ?_|refine blk_alloc ?_ _));refine blk_far ?_ NB264_274.out _;(with_reducible repeat(first|refine blk_drewN ?_ _|refine blk_drew ?_|refine blk_alloc ?_ _));refine blk_far ?_ NB264_274.out _;(with_reducible repeat(first|refine blk_drewN ?_ _|refine blk_drew ?_|refine blk_alloc ?_ _));exact BK264.out) Tryz.underlying59 rfl (by kernel_rfl)) rfl ?_;exact⟨_,_,eQ,vX (h:=Kd.V_mono (vFo (Kd.V_far (p:=⟨gb274,3,none⟩) (Kd.V_far (p:=⟨gb274,2,none⟩) (Kd.V_far (p:=⟨gb274,1,none⟩) (Kd.V_far (p:=⟨gb274,0,none⟩) (Kd.V_mono (Kd.V_mono HO269.out (fun k_ hk=>(⟨hk,hk.2⟩:_∧k_≠gb274))) (fun k_ hk=>(⟨hk,hk.1.1.2⟩:_∧k_≠gb264))) (fun _ hk=>hk.1.2) (.int .i64 t265)) (fun _ hk=>hk.1.2) (.bool t266)) (fun _ hk=>hk.1.2) (.slice Ao8 t267.length co8)) (fun _ hk=>hk.1.2) (.slice Ao9 t270.length co9)) (fun _ hk=>hk.2)) (fun _ hk=>hk.1.1.1.1)),vX (h:=Kd.V_mono (vFo (Kd.V_far (p:=⟨gb274,3,none⟩) (Kd.V_far (p:=⟨gb274,2,none⟩) (Kd.V_far (p:=⟨gb274,1,none⟩) (Kd.V_far (p:=⟨gb274,0,none⟩) (Kd.V_mono (Kd.V_mono HO272.out (fun k_ hk=>(⟨hk,hk.2⟩:_∧k_≠gb274))) (fun k_ hk=>(⟨hk,hk.1.1.2⟩:_∧k_≠gb264))) (fun _ hk=>hk.1.2) (.int .i64 t265)) (fun _ hk=>hk.1.2) (.bool t266)) (fun _ hk=>hk.1.2) (.slice Ao8 t267.length co8)) (fun _ hk=>hk.1.2) (.slice Ao9 t270.length co9)) (fun _ hk=>hk.2)) (fun _ hk=>hk.1.1.1.1)),bQ⟩
section
open Go.Maps
def mapK:Kd (Option Nat):=Kd.scalar Value.map (fun _=>rfl)
def SameBut(w w1:World):Prop:= ∀ (k:Nat) (o:Obj),w.heap[k]? =some o→(∀c,o≠.cells c 3 (0,0))→w1.heap[k]? =some o
theorem SameBut.of_grown{w w1:World}{row:Option Nat}(hg:w.grownBy w1 row)(hr: ∀k,row=some k→ ∃c,w.heap[k]? =some (.cells c 3 (0,0))):SameBut w w1:=by
 intro k o ho hne;have hlt:k< w.heap.size:=(Array.getElem?_eq_some_iff.1 ho).1;rw[hg.block k hlt (fun e=>?_)]
 ·exact ho
 ·obtain⟨c,hc⟩:=hr k e.symm;rw[hc]at ho;exact hne c (Option.some.inj ho).symm
structure Used (w:World) (base g cap:Nat) (bs:List (Option Nat)) (cnt:Nat) (F:Nat→Int→Bool):Prop where
 row:w.ownsRow base 78 1 (.slice (some ⟨g,0,none⟩) bs.length cap) bs.length (encs Value.map bs)
 at_: ∀ (r b:Nat),bs[r]? =some (some b)→base≤b∧IntSet w b cnt (F r)
 one: ∀ (r r' b:Nat),bs[r]? =some (some b)→bs[r']? =some (some b)→r=r'
section
variable {w w1:World} {base g cap cnt:Nat} {bs:List (Option Nat)} {F G:Nat→Int→Bool}
theorem Used.congr(h:Used w base g cap bs cnt F)(hF: ∀r x,r< bs.length→F r x=G r x):Used w base g cap bs cnt G:=
 ⟨h.row,fun r b hr=>⟨(h.at_ r b hr).1,(h.at_ r b hr).2.congr (fun x=>hF r x (List.getElem?_eq_some_iff.1 hr).1)⟩,h.one⟩
theorem Used.mono(h:Used w base g cap bs cnt F){m:Nat}(hm:cnt≤m):Used w base g cap bs m F:=
 ⟨h.row,fun r b hr=>⟨(h.at_ r b hr).1,(h.at_ r b hr).2.mono hm⟩,h.one⟩
theorem Used.blk(h:Used w base g cap bs cnt F): ∃c,w.heap[g]? =some (.cells c 78 (0,0)):=own_typed h.row g (by simp[Value.ownBlock])
theorem Used.set_blk{b n:Nat}{f:Int→Bool}(h:IntSet w b n f): ∃es cl,w.heap[b]? =some (.map es cl):=by
 obtain⟨D,⟨es,cl,hb,_⟩,_⟩:=h;exact⟨es,cl,hb⟩
theorem Used.same(h:Used w base g cap bs cnt F)(hs:SameBut w w1):Used w1 base g cap bs cnt F:=by
 refine⟨own_move h.row (fun k hk=>?_),fun r b hr=>⟨(h.at_ r b hr).1,(h.at_ r b hr).2.kept ?_⟩,h.one⟩
 ·have:g=k:=by simpa [Value.ownBlock]using hk
  subst this;obtain⟨c,hc⟩:=h.blk;rw[hc];exact hs _ _ hc (fun c' e=>by cases e)
 ·obtain⟨es,cl,hb⟩:=Used.set_blk (h.at_ r b hr).2;rw[hb];exact hs _ _ hb (fun c' e=>by cases e)
theorem Used.cell(h:Used w base g cap bs cnt F){r:Nat}{b:Nat}(hr:bs[r]? =some (some b)):w.cell? ⟨g,r,none⟩=some (.map (some b)):=by
 have hlt:=(List.getElem?_eq_some_iff.1 hr).1
 have:=(own_at_of (d:=none) h.row (r:Int) (by omega) (by omega)).1
 rw[Int.toNat_natCast]at this;rw[this];have e:rdOf none bs (r:Int)=some b:=by simp[rdOf,List.getD_eq_getElem?_getD,hr]
 rw[e]
theorem Used.put(h:Used w base g cap bs cnt F){r b:Nat}(hr:bs[r]? =some (some b))(x:Int){w1:World}(hs:IntSet w1 b (cnt+1) (fun y=>if y=x then true else F r y))(hg:w.grownBy w1 (some b)):
  Used w1 base g cap bs (cnt+1) (fun r' y=>if r'=r∧y=x then true else F r' y):=by
 have hb:=Used.set_blk (h.at_ r b hr).2;refine⟨own_move h.row (fun k hk=>?_),fun r' b' hr'=>⟨(h.at_ r' b' hr').1,?_⟩,h.one⟩
 ·have e:g=k:=by simpa [Value.ownBlock]using hk
  subst e;obtain⟨c,hc⟩:=h.blk;refine hg.block g (Array.getElem?_eq_some_iff.1 hc).1 (fun e=>?_);obtain⟨es,cl,hb⟩:=hb;cases e;rw[hb]at hc;cases hc
 ·by_cases e:r'=r
  ·subst e;rw[hr]at hr';cases hr';exact hs.congr (fun y=>by by_cases ey:y=x<;>simp[ey])
  ·have hne:b'≠b:=fun eb=>e (h.one r' r b (eb▸hr') hr)
   have h1:=(h.at_ r' b' hr').2;refine((h1.kept (hg.block b' h1.lt (fun eb=>hne (Option.some.inj eb)))).mono (Nat.le_succ _)).congr (fun y=>?_);simp[e]
end
theorem SameBut.alloc(w:World)(o:Obj):SameBut w (w.alloc o):=fun k o' ho _=>by
 rw[←ho]
 exact Below.heap_alloc w o k (Array.getElem?_eq_some_iff.1 ho).1
theorem SameBut.trans{a b c:World}(h:SameBut a b)(h':SameBut b c):SameBut a c:=fun k o ho hne=>h' k o (h k o ho hne) hne
theorem Used.make{w:World}{base g cap:Nat}{bs:List (Option Nat)}(h:Used w base g cap bs 0 (fun _ _=>false))(hb:base≤w.heap.size)(r:Nat):
  Used ((w.alloc (.map #[] 0)).setCell ⟨g,r,none⟩ (.map (some w.heap.size))) base g cap (bs.set r (some w.heap.size)) 0 (fun _ _=>false):=by
 have h1:=h.same (SameBut.alloc w (.map #[] 0));obtain⟨hrow,hg⟩:=own_store_of h1.row (r:Int) (some w.heap.size);rw[Int.toNat_natCast]at hrow hg;have hgb:=h.blk;have key: ∀b n f,IntSet (w.alloc (.map #[] 0)) b n f→IntSet ((w.alloc (.map #[] 0)).setCell ⟨g,r,none⟩ (.map (some w.heap.size))) b n f:=by
  intro b n f hs;refine hs.kept (hg.block b hs.lt (fun e=>?_));obtain⟨es,cl,hbm⟩:=Used.set_blk hs;obtain⟨c,hc⟩:=h1.blk;cases e;rw[hbm]at hc;cases hc
 refine⟨by rw[List.length_set];exact hrow,fun r' b hr'=>?_,fun r1 r2 b e1 e2=>?_⟩
 ·by_cases e:r'=r
  ·subst e;rw[List.getElem?_set_self']at hr';cases hx:bs[r']? with
   |none=>rw[hx]at hr';cases hr'
   |some y=>
    rw[hx]at hr';cases hr';exact⟨hb,key _ _ _ (IntSet.made w)⟩
  ·rw[List.getElem?_set_ne (Ne.symm e)]at hr';exact⟨(h1.at_ r' b hr').1,key _ _ _ (h1.at_ r' b hr').2⟩
 ·have old: ∀q b,bs[q]? =some (some b)→b< w.heap.size:=fun q b hq=>(h.at_ q b hq).2.lt
  have get: ∀q b,(bs.set r (some w.heap.size))[q]? =some (some b)→(q=r∧b=w.heap.size)∨(q≠r∧bs[q]? =some (some b)):=by
   intro q b hq;by_cases e:q=r
   ·subst e;rw[List.getElem?_set_self']at hq;cases hx:bs[q]? with
    |none=>rw[hx]at hq;cases hq
    |some y=>rw[hx]at hq;cases hq;exact .inl ⟨rfl,rfl⟩
   ·rw[List.getElem?_set_ne (Ne.symm e)]at hq;exact .inr ⟨e,hq⟩
  rcases get r1 b e1 with ⟨q1,p1⟩ | ⟨n1,g1⟩<;>rcases get r2 b e2 with ⟨q2,p2⟩ | ⟨n2,g2⟩
  ·rw[q1,q2]
  ·exact absurd (old r2 _ g2) (by omega)
  ·exact absurd (old r1 _ g1) (by omega)
  ·exact h.one r1 r2 b g1 g2
theorem ints_kept{w w1:World}{base:Nat}{v:Value}{xs:List Int}(h:Kd.R (Kd.int .i64) 3 w base (fun _=>True) v xs){b:Nat}(hb: ∃es cl,w.heap[b]? =some (.map es cl))(hg:w.grownBy w1 (some b)):Kd.R (Kd.int .i64) 3 w1 base (fun _=>True) v xs:=by
 have ho:=Kd.own_of_R h;refine Kd.R_of_own (own_move ho (fun k hk=>?_)) h.1;obtain⟨c,hc⟩:=own_typed ho k hk;refine hg.block k (Array.getElem?_eq_some_iff.1 hc).1 (fun e=>?_);obtain⟨es,cl,hb⟩:=hb;cases e;rw[hb]at hc;cases hc
def takenF(p:List (List Bool))(F:Nat→Int→Bool)(k:Nat)(c:Int):Bool:=(List.range p.length).any fun r=>(p.getD r []).getD k false && F r c
theorem sparse_taken.calls(A0:Option Addr)(c0:Nat)(l0:List (List Bool))(base g cap cnt:Nat)(bs:List (Option Nat))(F:Nat→Int→Bool)(k:Nat)(c:Int)(w:World)(hr0:Kd.C (Kd.slice 4 Kd.bool) w A0 l0.length l0)
  (hU:Used w base g cap bs cnt F) (hbl:bs.length=l0.length) (hall: ∀r,r< bs.length→ ∃b,bs[r]? =some (some b)) (hk: ∀row,row∈l0→k< row.length) (hwf:(Lit.int .i64 c).wf=true):
  Calls Tryz.prog 83 #[.slice A0 l0.length c0,.slice (some ⟨g,0,none⟩) bs.length cap,.int .i64 k,.int .i64 c] w fun e w'=>e= .returned (.bool (takenF l0 F k c))∧w'=w:=by
 have HR0:=Aside0.mk hr0;have hn0:l0.length≤9223372036854775807:=hr0.2.1;have HU:=Aside0.mk hU;have Hbl:=Aside0.mk hbl;have Hall:=Aside0.mk hall;have Hk:=Aside0.mk hk;have Hwf:=Aside0.mk hwf;have hbl1:bs.length≤l0.length:=by omega
 have hbl2:l0.length≤bs.length:=by omega
 clear hr0 hU hbl hall hk hwf;go_enter Tryz.func83,Tryz.ntmps83
 go_wp2
 go_loopg [13] l0.length (fun gg s13 wr=> ∃i:Nat,i≤l0.length∧l0.length - i≤gg∧s13= .int .i64 i∧wr=w∧Aside0 (∀j,j< i→((l0.getD j []).getD k false && F j c)=false))
 case atStart=>exact⟨0,Nat.zero_le _,by omega,rfl,rfl,⟨fun j hj=>absurd hj (by omega)⟩⟩
 case round=>
  obtain⟨i,hi,hg,rfl,rfl,HA⟩:=hrel;by_cases hlt:i< l0.length
  ·have hltz:(i:Int)< (l0.length:Int):=by omega
   have hltb:(i:Int)< (bs.length:Int):=by omega
   obtain⟨ad,c2,e0,hcl,hK,hc0'⟩:=Kd.C_get HR0.out ([] :List Bool) (i:Int) (by omega) (by omega);subst e0;obtain⟨A2,c2,rfl,hl2,hr2⟩:=hK;have hx:l0.getD (Int.toNat i) [] =l0[i] :=by simp[hlt]
   have hx':l0.getD i [] =l0[i] :=by simp[hlt]
   rw[hx]at hc0' hl2 hr2;have hcell:wr.cell? (ad.add i)=some (.slice A2 l0[i].length c2):=by
    have:=hc0' 0 _ rfl
    simpa [Kd.slice]using this
   have hkr:k< l0[i].length:=Hk.out _ (List.getElem_mem _);have hkrz:(k:Int)< (l0[i].length:Int):=by omega
   obtain⟨row,hrow⟩: ∃row,row=l0[i] :=⟨_,rfl⟩;rw[←hrow]at hcell hkr hkrz hr2 hx';obtain⟨ad2,e2,hx2⟩:=Kd.at_bool hr2 (k:Int) (by omega) (by omega);subst e2;simp only[rdOf,Int.toNat_natCast]at hx2;obtain⟨b,hb⟩:=Hall.out i (by omega);have hcb:=HU.out.cell hb;have hlook:=(HU.out.at_ i b hb).2.look c Hwf.out;obtain⟨bk,hbk⟩: ∃bk,bk=row.getD k false:=⟨_,rfl⟩;rw[←hbk]at hx2;obtain⟨f,hf⟩: ∃f,f=F i c:=⟨_,rfl⟩;rw[←hf]at hlook;have hfi:((l0.getD i []).getD k false && F i c)=(bk && f):=by rw[hx',hbk,hf]
   have Hfi:=Aside0.mk hfi;clear hc0' hl2 hr2 hx hcl hrow hx' hb hfi hbk hf;cases bk with
   |false=>
    clear hlook hcb;go_wp2_with fail
    go_roundg (l0.length - (i+1))
    case measure=>omega
    case rel=>
     refine⟨i+1,by omega,by omega,by go_num,rfl,⟨fun j hj=>?_⟩⟩;by_cases e:j=i
     ·subst e;rw[Hfi.out];rfl
     ·exact HA.out j (by omega)
   |true=>
    cases f with
    |true=>
     go_wp2_with fail
     go_ret;have hrr:takenF l0 F k c=true:=List.any_eq_true.2 ⟨i,List.mem_range.2 hlt,by rw[Hfi.out];rfl⟩;exact⟨by rw[hrr];rfl,rfl⟩
    |false=>
     go_wp2_with fail
     go_roundg (l0.length - (i+1))
     case measure=>omega
     case rel=>
      refine⟨i+1,by omega,by omega,by go_num,rfl,⟨fun j hj=>?_⟩⟩;by_cases e:j=i
      ·subst e;rw[Hfi.out];rfl
      ·exact HA.out j (by omega)
  ·have hltz: ¬ (i:Int)< (l0.length:Int):=by omega
   have:i=l0.length:=by omega
   subst this;go_wp2_with fail
   go_ret;have hrr:takenF l0 F k c=false:=List.any_eq_false.2 (fun j hj=>by rw[HA.out j (List.mem_range.1 hj)];decide);exact⟨by rw[hrr];rfl,rfl⟩
def colPick(p:List (List Bool))(out:List Int):Nat→Int→Option Int
 |0,_=>none
 |n+1,c=>if takenF p (fun r=>seenAt (p.getD r []) out out.length) out.length c=true then colPick p out n (c+1)else some c
def colGo(p:List (List Bool)):Nat→List Int→Option (List Int)
 |0,out=>some out
 |n+1,out=>(colPick p out (out.length+1) 0).bind fun c=>colGo p n (out++ [c])
def sparse_colours.f(l0:List (List Bool))(a1:Int):Option (List Int):=if(decide (l0.length≤1000000) && decide (a1≤1000000) && l0.all (fun row=>decide (a1≤row.length)))=true then colGo l0 a1.toNat []else none
theorem seenAt_app(row:List Bool)(out:List Int)(c x:Int):seenAt row (out++ [c]) (out.length+1) x=(seenAt row out out.length x|| (row.getD out.length false && (c==x))):=by
 rw[seenAt_succ];have e:(out++ [c]).getD out.length 0=c:=by simp
 rw[e]
 congr 1
 unfold seenAt;have hk: ∀k,k≤out.length→((List.range k).any fun j=>row.getD j false && ((out++ [c]).getD j 0==x))=((List.range k).any fun j=>row.getD j false && (out.getD j 0==x)):=by
  intro k
  induction k with
  |zero=>intro _;rfl
  |succ k ih=>
   intro hk;rw[List.range_succ,List.any_append,List.any_append,ih (by omega)];simp[List.getElem?_append_left (show k< out.length by omega)]
 exact hk _ (Nat.le_refl _)
theorem sparse_colours.info:(Tryz.prog.info? 78).map (fun i=>(i.zero,i.size,i.bytes))=some (some (.map none),1,8):=by kernel_rfl
theorem sparse_colours.calls(A0:Option Addr)(c0:Nat)(l0:List (List Bool))(a1:Int)(r:List Int)(w:World)(hr0:Kd.C (Kd.slice 4 Kd.bool) w A0 l0.length l0)(hc0:l0.length≤c0)(h:sparse_colours.f l0 a1=some r):
  Calls Tryz.prog 57 #[.slice A0 l0.length c0,.int .i64 a1] w fun e w'=> ∃v0_:Value,e= .returned (v0_)∧Kd.R (Kd.int .i64) 3 w' w.heap.size (fun _=>True) v0_ r∧Below w.heap.size w w':=by
 have HR0:=Aside0.mk hr0;clear hr0 hc0;unfold sparse_colours.f at h;split at h
 case isFalse=>cases h
 case isTrue hok=>
 simp only[Bool.and_eq_true,decide_eq_true_eq]at hok;obtain⟨⟨hp1,ha1⟩,hrows⟩:=hok;have HL:=Aside0.mk (List.all_eq_true.1 hrows);have H0:=Aside0.mk h;clear hrows h;have hmm:= @run_makeMap Tryz.prog;go_enter Tryz.func57,Tryz.ntmps57
 go_wp2_with (refine gD 14 ?_;refine Kd.R_make mapK _ 78 rfl (N:=14) rfl 117 _ _ rfl (l0.length:Int) rfl rfl Tryz.underlying117 (.map none) 8 sparse_colours.info rfl (by decide) (by omega) none (ok:=fun _=>True) (okp:=fun _=>True) rfl (fun _ hk=>hk) trivial (by omega) (by omega) (Below.refl _ _) (Nat.le_refl _) ?_;intro v1 w1 ho hb _ hnew;have ho2:=Kd.own_of_R ho;rw[List.length_replicate,Int.toNat_natCast]at ho2;obtain⟨g,cap,rfl⟩:=slice_form ho2 (hnew.imp fun b h=>h.1);have HO:=Aside0.mk ho2;have HB:=Aside0.mk hb;clear ho ho2 hb hnew)
 go_loopg [17] l0.length (fun gg s17 wr=> ∃ (i:Nat) (bs:List (Option Nat)),i≤l0.length∧l0.length - i≤gg∧s17= .int .i64 i∧Aside0 (Below w.heap.size w wr)∧Aside0 (Used wr w.heap.size g cap bs 0 (fun _ _=>false))∧Aside0 (bs.length=l0.length)∧Aside0 (∀q,q< i→ ∃b,bs[q]? =some (some b))∧Aside0 (∀q,i≤q→q< l0.length→bs[q]? =some none))
 case atStart=>
  refine⟨0,List.replicate l0.length none,Nat.zero_le _,by omega,rfl,HB,⟨⟨by simpa using HO.out,fun q b hq=>?_,fun q q' b hq=>?_⟩⟩,⟨by simp⟩,⟨fun q hq=>absurd hq (by omega)⟩,⟨fun q _ hq=>by simp[hq]⟩⟩;all_goals
   rw[List.getElem?_replicate]at hq;split at hq<;>cases hq
 case round=>
  obtain⟨i,bs,hi,hg,rfl,HB1,HU,Hbl,Hmade,Hnone⟩:=hrel;by_cases hlt:i< l0.length
  ·have hltz:(i:Int)< (l0.length:Int):=by omega
   have hbl:bs.length=l0.length:=Hbl.out;have hU1:=HU.out.same (SameBut.alloc wr (.map #[] 0));have hcf:=own_at_of (d:=none) hU1.row (i:Int) (by omega) (by omega);have e1:rdOf none bs (i:Int)=none:=by simp[rdOf,List.getD_eq_getElem?_getD,Hnone.out i (Nat.le_refl _) hlt]
   rw[e1,Int.toNat_natCast]at hcf;obtain⟨hc1,hf1⟩:=hcf;clear hU1 e1 hbl;go_wp2_with fail
   go_roundg (l0.length - (i+1))
   case measure=>omega
   case rel=>
    refine⟨i+1,bs.set i (some wr.heap.size),by omega,by omega,by go_num,⟨?_⟩,⟨HU.out.make HB1.out.size i⟩,⟨by rw[List.length_set];exact Hbl.out⟩,⟨fun q hq=>?_⟩,⟨fun q hq hq2=>?_⟩⟩
    ·obtain⟨c,hcb⟩:=HU.out.blk;exact(HB1.out.alloc HB1.out.size _).setCell (HU.out.row.lt g (by simp[Value.ownBlock])).1 _
    ·by_cases e:q=i
     ·subst e;exact⟨wr.heap.size,by rw[List.getElem?_set_self (by rw[Hbl.out];exact hlt)]⟩
     ·rw[List.getElem?_set_ne (Ne.symm e)];exact Hmade.out q (by omega)
    ·rw[List.getElem?_set_ne (by omega)];exact Hnone.out q (by omega) hq2
  ·have hltz: ¬ (i:Int)< (l0.length:Int):=by omega
   have:i=l0.length:=by omega
   subst this;have HU1:Aside0 (Used wr w.heap.size g cap bs 0 (fun q=>seenAt (l0.getD q []) [] 0)):=⟨HU.out.congr (fun q x _=>rfl)⟩;clear hmm HU Hnone HO HB;go_wp2_with fail
   go_loopg [5,26] a1.toNat (fun gg s5 s26 wr=> ∃ (k cnt:Nat) (out:List Int),k≤a1.toNat∧a1.toNat - k≤gg∧cnt≤k * 1000000∧s26= .int .i64 k∧Aside0 (Kd.R (Kd.int .i64) 3 wr w.heap.size (fun _=>True) s5 out)∧Aside0 (Below w.heap.size w wr)∧Aside0 (Used wr w.heap.size g cap bs cnt (fun q=>seenAt (l0.getD q []) out k))∧Aside0 (out.length=k)∧Aside0 (colGo l0 (a1.toNat - k) out=some r))
   case atStart=>exact⟨0,0,[],Nat.zero_le _,by omega,by omega,rfl,⟨Kd.R_nil _ _ _ _ _⟩,HB1,HU1,⟨rfl⟩,H0⟩
   case round=>
    clear H0 HU1 HB1;obtain⟨k,cnt,out,hk,hgk,hcnt,rfl,HO,HB,HU,Hol,HG⟩:=hrel;by_cases hkt:k< a1.toNat
    ·have hktz:(k:Int)< a1:=by omega
     have hrk: ∀row,row∈l0→k< row.length:=fun row hrow=>by
      have:=of_decide_eq_true (HL.out row hrow)
      omega
     have Hrk:=Aside0.mk hrk;clear hrk;obtain⟨n,hn⟩: ∃n,a1.toNat - k=n+1:=⟨a1.toNat - k - 1,by omega⟩;have hG:=HG.out;rw[hn,colGo,Hol.out]at hG;have HP:=Aside0.mk hG;have Hn:=Aside0.mk hn;clear hG HG hn;obtain⟨wo,hwo⟩: ∃wo:World,wo=wr:=⟨_,rfl⟩;subst hwo;go_wp2_with fail
     go_loopg [9] (k+1) (fun gg s9 wr=> ∃ (c:Int) (m:Nat),wr=wo∧m≤gg∧0≤c∧c+m=k+1∧s9= .int .i64 c∧Aside0 ((colPick l0 out m c).bind (fun c=>colGo l0 n (out++ [c]))=some r))
     case atStart=>exact⟨0,k+1,rfl,Nat.le_refl _,by omega,by omega,rfl,HP⟩
     case round=>
      clear HP;obtain⟨c,m,rfl,hm,hc0,hcm,rfl,HP⟩:=hrel;have hwf:(Lit.int .i64 c).wf=true:=WalkArith.wf_i64 (by omega);have hT:=sparse_taken.calls A0 c0 l0 w.heap.size g cap cnt bs _ k c wr (Kd.C_below HR0.out HB.out) HU.out Hbl.out (fun q hq=>Hmade.out q (by rw[←Hbl.out];exact hq)) Hrk.out hwf;rw[Hbl.out]at hT;have HT:=Aside0.mk hT;have Hwf:=Aside0.mk hwf;clear hT hwf;cases m with
      |zero=>exact absurd HP.out (by simp[colPick])
      |succ m=>
       have hP:=HP.out;rw[colPick,Hol.out]at hP;obtain⟨tk,htk⟩: ∃tk,tk=takenF l0 (fun q=>seenAt (l0.getD q []) out k) k c:=⟨_,rfl⟩;rw[←htk]at hP HT;have HP:=Aside0.mk hP;clear hP htk;cases tk with
       |true=>
        have hP:=HP.out;rw[if_pos rfl]at hP;have HP:=Aside0.mk hP;clear hP;go_wp2_with fail
        refine HT.out.mono ?_;rintro e w' ⟨rfl,rfl⟩;go_wp2_with fail
        go_roundg m
        case measure=>omega
        case rel=>exact⟨c+1,m,rfl,Nat.le_refl _,by omega,by omega,by go_num,HP⟩
       |false=>
        have hP:=HP.out;rw[if_neg (by decide),Option.bind_some]at hP;have HP:=Aside0.mk hP;clear hP;go_wp2_with fail
        refine HT.out.mono ?_;rintro e w' ⟨rfl,rfl⟩;go_wp2_with fail
        clear HT;go_loopg [38] l0.length (fun gg s38 wr=> ∃ (i cn:Nat),i≤l0.length∧l0.length - i≤gg∧cn≤cnt+i∧s38= .int .i64 i∧Aside0 (Kd.R (Kd.int .i64) 3 wr w.heap.size (fun _=>True) u5 out)∧Aside0 (Below w.heap.size w wr)∧Aside0 (Used wr w.heap.size g cap bs cn (fun q x=>if q< i∧(l0.getD q []).getD k false=true∧x=c then true else seenAt (l0.getD q []) out k x)))
        case atStart=>exact⟨0,cnt,Nat.zero_le _,by omega,by omega,rfl,HO,HB,⟨HU.out.congr (fun q x _=>by rw[if_neg (by omega)])⟩⟩
        case round=>
         clear HO HB HU;obtain⟨i,cn,hi,hgi,hcn,rfl,HO,HB,HU⟩:=hrel;by_cases hlt:i< l0.length
         ·have hltz:(i:Int)< (l0.length:Int):=by omega
          obtain⟨ad,c2,e0,hcl,hK,hc0'⟩:=Kd.C_get (Kd.C_below HR0.out HB.out) ([] :List Bool) (i:Int) (by omega) (by omega);subst e0;obtain⟨A2,c2,rfl,hl2,hr2⟩:=hK;have hx:l0.getD (Int.toNat i) [] =l0[i] :=by simp[hlt]
          have hx':l0.getD i [] =l0[i] :=by simp[hlt]
          rw[hx]at hc0' hl2 hr2;have hcell:wr.cell? (ad.add i)=some (.slice A2 l0[i].length c2):=by
           have:=hc0' 0 _ rfl
           simpa [Kd.slice]using this
          have hkr:k< l0[i].length:=Hrk.out _ (List.getElem_mem _);have hkrz:(k:Int)< (l0[i].length:Int):=by omega
          obtain⟨row,hrow⟩: ∃row,row=l0[i] :=⟨_,rfl⟩;rw[←hrow]at hcell hkr hkrz hr2 hx';obtain⟨ad2,e2,hx2⟩:=Kd.at_bool hr2 (k:Int) (by omega) (by omega);subst e2;simp only[rdOf,Int.toNat_natCast]at hx2;have hbl:bs.length=l0.length:=Hbl.out;obtain⟨b,hb⟩:=Hmade.out i (by omega);have hcb:=HU.out.cell hb;have Hb:=Aside0.mk hb;obtain⟨bk,hbk⟩: ∃bk,bk=row.getD k false:=⟨_,rfl⟩;rw[←hbk]at hx2;have Hbk:Aside0 ((l0.getD i []).getD k false=bk):=⟨by rw[hx',hbk]⟩;clear hc0' hl2 hr2 hx hcl hrow hx' hb hbk hbl;cases bk with
          |false=>
           clear hcb;go_wp2_with fail
           go_roundg (l0.length - (i+1))
           case measure=>omega
           case rel=>
            refine⟨i+1,cn,by omega,by omega,by omega,by go_num,HO,HB,⟨HU.out.congr (fun q x _=>?_)⟩⟩;by_cases e:q=i
            ·subst e;rw[if_neg (by omega),if_neg (by rw[Hbk.out];simp)]
            ·by_cases h2:q< i
             ·simp[h2,show q< i+1 by omega]
             ·simp[h2,show¬q< i+1 by omega]
          |true=>
           go_wp2_with (at_mapUpdate;(refine wpList_intset_put _ rfl _ _ _ rfl b cn _ rfl (HU.out.at_ i b Hb.out).2 (by unfold maxLen;omega) c true rfl rfl Hwf.out ?_);intro w1 hs1 hg1;have HS1:=Aside0.mk hs1;have HG1:=Aside0.mk hg1;clear hs1 hg1)
           go_roundg (l0.length - (i+1))
           case measure=>omega
           case rel=>
            refine⟨i+1,cn+1,by omega,by omega,by omega,by go_num,⟨ints_kept HO.out (Used.set_blk (HU.out.at_ i b Hb.out).2) HG1.out⟩,⟨HB.out.grown HG1.out HB.out.size (fun b' hb'=>by cases hb';exact(HU.out.at_ i b Hb.out).1)⟩,⟨(HU.out.put Hb.out c HS1.out HG1.out).congr (fun q x _=>?_)⟩⟩;by_cases e:q=i
            ·subst e;by_cases ex:x=c
             ·rw[if_pos ⟨rfl,ex⟩,if_pos ⟨by omega,Hbk.out,ex⟩]
             ·rw[if_neg (fun h=>ex h.2),if_neg (fun h=>ex h.2.2),if_neg (fun h=>ex h.2.2)]
            ·rw[if_neg (fun h=>e h.1)];by_cases h2:q< i
             ·simp[h2,show q< i+1 by omega]
             ·simp[h2,show¬q< i+1 by omega]
         ·have hltz: ¬ (i:Int)< (l0.length:Int):=by omega
          have:i=l0.length:=by omega
          subst this;have hol:out.length≤1000000:=by have:=Hol.out;omega
          go_wp2_with ((with_reducible refine gate_builtin (b:= .append) (xs:= #[.tmp 53,.tmp 55]) rfl ?_);at_builtin;refine Kd.R_append (Kd.int .i64) (w0:=w) w.heap.size rfl (.tmp 53) (.tmp 55) 23 3 (.int .i64 0) 8 rfl Tryz.underlying23 info3 rfl (by decide) (by omega) u5 out c [.int .i64 c] (fun _=>True) (fun _=>False) rfl rfl ?aP (fun _ hk=>hk.elim) ?aF ?aO ?aB ?aS ?aL ?_;(case aP=>exact rfl);(case aB=>exact HB.out);(case aF=>exact(fun _ _=>trivial));(case aO=>exact HO.out);(case aS=>exact HB.out.size);(case aL=>omega);intro v2 w2 ho2 hb2 hg2 _;have HO2:=Aside0.mk ho2;have HB2:=Aside0.mk hb2;have HG2:=Aside0.mk hg2;clear ho2 hb2 hg2)
          go_roundg (a1.toNat - (k+1))
          case measure=>have:=Hn.out;omega
          case rel=>
           refine⟨k+1,cn,out++ [c],by omega,by omega,by omega,by go_num,HO2,HB2,⟨(HU.out.same (SameBut.of_grown HG2.out (fun q hq=>own_typed (Kd.own_of_R HO.out) q hq))).congr (fun q x hq=>?_)⟩,⟨by rw[List.length_append,Hol.out];rfl⟩,⟨by rw[show a1.toNat - (k+1)=n by have:=Hn.out;omega];exact HP.out⟩⟩;have hbl:bs.length=l0.length:=Hbl.out;have ho:=Hol.out;subst ho;rw[seenAt_app];by_cases ex:x=c
           ·subst ex;cases hrow:(l0.getD q []).getD out.length false<;>simp[hrow,show q< l0.length by omega]
           ·have:(c==x)=false:=beq_eq_false_iff_ne.2 (Ne.symm ex)
            rw[this,if_neg (fun h=>ex h.2.2)];simp
    ·have hktz: ¬ (k:Int)< a1:=by omega
     have:k=a1.toNat:=by omega
     subst this;rw[Nat.sub_self]at HG;have hout:out=r:=Option.some.inj HG.out;subst hout;go_wp2_with fail
     go_ret;exact⟨_,rfl,HO.out,HB.out⟩
end
end Go.Proofs.YtjjbondlcjnaiaaGreat.PSparseOwn
