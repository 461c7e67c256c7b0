-- written by a program of this session, after the kit's print
import Derived.Test.YtjjbondlcjnaiaaDoorPSparseJoinedx3
namespace Go.Proofs.YtjjbondlcjnaiaaDoor.PSparseJoined
open Go.RowKit Go.Proofs.YtjjbondlcjnaiaaDoorW.PrintWords Go.Proofs.YtjjbondlcjnaiaaDoorW.PrintLast Go.Proofs.YtjjbondlcjnaiaaDoorW.PrintMore
set_option maxHeartbeats 8000000
set_option maxRecDepth 100000
attribute [local go_sem] max2_int min2_int max_two min_two max_three min_three max_four min_four
set_option linter.unusedVariables false
set_option linter.unusedSimpArgs false
def nat_short.l0:Nat→List Int→Int→List Int→Int→Int→Option (List Int×Int)
 |0,_,_,_,_,_=>none
 |k+1,x0,x1,x6,x7,x8=>if x8≥0 then(if 0≤x8 then(if x8< (x0.length:Int)then(if(IntKind.u64.wrap (x1))=0 then(none)else(if x8< (x6.length:Int)then(nat_short.l0 k x0 x1 (x6.set (x8:Int).toNat ((IntKind.u64.wrap (Int.tdiv (Go.bits .or .u64 (IntKind.u64.wrap (x7 * 4294967296)) (IntKind.u64.wrap (rd x0 x8))) (IntKind.u64.wrap (x1)))) % 4294967296)) (Int.tmod (Go.bits .or .u64 (IntKind.u64.wrap (x7 * 4294967296)) (IntKind.u64.wrap (rd x0 x8))) (IntKind.u64.wrap (x1))) (wrap64 (x8 - 1)))else(none)))else(none))else(none))else((nat_trim.f k x6).bind fun t173=>(some (t173,(x7) % 4294967296)))
def nat_short.f(k:Nat)(l0:List Int)(a1:Int):Option (List Int×Int):=if 0≤(l0.length:Int)then(if((l0.length:Int):Int).toNat≤70368744177664 then(nat_short.l0 k l0 a1 (List.replicate ((l0.length:Int):Int).toNat 0) 0 (wrap64 ((l0.length:Int) - 1)))else(none))else(none)
theorem nat_short.calls(k:Nat)(A0:Option Addr)(c0:Nat)(l0:List Int)(a1:Int)(r1:List Int)(r2:Int)(w:World)(hr0:Kd.C (Kd.int .u32) w A0 l0.length l0)(hc0:l0.length≤c0)(h:nat_short.f k l0 a1=some (r1,r2)):
  Calls Tryd.prog 93 #[.slice A0 l0.length c0,.int .u32 a1] w fun e w'=> ∃v0_:Value,e= .returned (.tuple #[v0_,.int .u32 r2])∧Kd.V (Kd.int .u32) 97 w' w.heap.size (fun k_=>(w.heap.size≤k_)) v0_ r1∧Below w.heap.size w w':=by
 have HR0:=Aside0.mk hr0;have HC0:=Aside0.mk hc0;clear hr0 hc0;have HB:=Aside0.mk (Below.refl w.heap.size w);have H:=h;clear h;unfold nat_short.f at H;replace H:=iN H;obtain⟨c3,H⟩:=H;have c3b0:=eq_true c3;have c3b1:=decide_eq_true c3;clear c3;replace H:=iN H;obtain⟨c4,H⟩:=H;have c4b0:=eq_true c4;have c4b1:=decide_eq_true c4;clear c4;obtain⟨y168,hy168⟩: ∃y_:List Int,y_=(List.replicate ((l0.length:Int):Int).toNat 0):=⟨_,rfl⟩;(first|replace H:=by_ hy168 H|rw[←hy168]at H);(try dsimp only at H);have Ny168:=Aside0.mk hy168;clear hy168;have H':=Aside0.mk H;clear H;go_enter Tryd.func93,Tryd.ntmps93
 go_wp2_with (first| (refine gD 11 ?_;refine Kd.R_make (Kd.int .u32) _ 97 rfl (N:=11) rfl 40 _ _ rfl (l0.length:Int) rfl rfl Tryd.underlying40 (.int .u32 0) 4 info97 rfl (by decide) (by omega) 0 (ok:=fun _=>True) (okp:=fun _=>True) rfl (fun _ hk=>hk) trivial (dQ) (Nat.le_trans (Nat.mul_le_mul_right _ (dQ:(l0.length:Int).toNat≤70368744177664)) (by omega)) (Below.refl _ _) (Nat.le_refl _) ?_;intro v169 w5 ho6 hb hg_ hnew_;clear hg_ hnew_;(first|rw[←Ny168.out]at ho6| (simp only[Int.reduceToNat]at ho6;rw[←Ny168.out]at ho6));have HO170:=Aside0.mk (Kd.R_lower (Kd.R_newM (M:=fun k_=>(w.heap.size≤k_)) ho6 (below_size bQ) (fun k_ h_=>h_)) (below_size bQ));replace HB:=hsQ hb;clear hb ho6))
 go_loopg [7,8] k (fun kq v7 v8 w'=> ∃ (x6_1:List Int) (x7_1:Int) (x8_1:Int),v7= .int .u64 x7_1∧v8= .int .i64 x8_1∧Aside0 (nat_short.l0 kq l0 a1 x6_1 x7_1 x8_1=some (r1,r2))∧Aside0 (kq≤k)∧Aside0 (Kd.R (Kd.int .u32) 97 w' w.heap.size (fun k_=>(w.heap.size≤k_)) v169 x6_1)∧Aside0 (Below w.heap.size w w'))
 case atStart=>exact⟨(y168),(0),(wrap64 ((l0.length:Int) - 1)),eS,eS,H',⟨Nat.le_refl _⟩,⟨rX (h:=Kd.R_mono HO170.out (fun _ hk=>hk.1))⟩,⟨bQ⟩⟩
 case round=>
  clear H';(try clear p2);(try clear c3);(try clear c3b0);(try clear c3b1);(try clear c4);(try clear c4b0);(try clear c4b1);(try clear p6);obtain⟨x6_1,x7_1,x8_1,rfl,rfl,HA,HK1,HO_6,HB⟩:=hrel;cases gk with
  |zero=>exact absurd HA.out (by simp[nat_short.l0])
  |succ k1=>
   have H:=HA.out;clear HA;simp only[nat_short.l0]at H;by_cases c7:x8_1≥0
   ·rw[if_pos c7]at H;have c7b0:=decide_eq_true c7;clear c7;replace H:=iN H;obtain⟨c8,H⟩:=H;have c8b0:=decide_eq_true c8;clear c8;replace H:=iN H;obtain⟨c9,H⟩:=H;have c9b0:=decide_eq_true c9;clear c9;by_cases c10:(IntKind.u64.wrap (a1))=0
    ·rw[if_pos c10]at H;exact absurd H (by simp)
    ·rw[if_neg c10]at H;have c10b0:=beq_eq_false_iff_ne.mpr c10;have c10b1:=bne_iff_ne.mpr c10;replace H:=iN H;obtain⟨c11,H⟩:=H;have c11b0:=decide_eq_true c11;clear c11;obtain⟨y172,hy172⟩: ∃y_:List Int,y_=(x6_1.set (x8_1:Int).toNat ((IntKind.u64.wrap (Int.tdiv (Go.bits .or .u64 (IntKind.u64.wrap (x7_1 * 4294967296)) (IntKind.u64.wrap (rd l0 x8_1))) (IntKind.u64.wrap (a1)))) % 4294967296)):=⟨_,rfl⟩;(first|replace H:=by_ hy172 H|rw[←hy172]at H);(try dsimp only at H);have Ny172:=Aside0.mk hy172;clear hy172;have H':=Aside0.mk H;clear H;have p171:0≤(x8_1:Int):=dQ;have q171:x8_1< (l0.length:Int):=dQ;obtain⟨ad171,e171,hx171_0⟩:=Kd.at_int HR0.out x8_1 p171 q171;cases e171;replace hx171_0:=cE HB.out hx171_0;replace p171:=eq_true p171;replace q171:=eq_true q171;have p12:0≤(x8_1:Int):=dQ;have q12:(x8_1:Int)< ((x6_1.length:Int):Int):=dQ;obtain⟨go12,co12,eo12,gb12,gl12,cl12,HG12⟩:=Kd.R_form HO_6.out (by omega);(first|cases eo12| (injection eo12 with ea_ en_ ec_;(first|subst ea_| (injection ea_ with ea_;subst ea_));subst ec_;clear en_));have GB12:=Aside0.mk gb12;have GG12:=Aside0.mk HG12;clear gb12 gl12 HG12;obtain⟨hx12_0,hf12_0⟩:=Kd.R_celln 0 HO_6.out (x8_1:Int) p12 q12;replace p12:=eq_true p12;replace q12:=eq_true q12;have HP13:=Kd.R_putg HO_6.out (x8_1:Int) ((IntKind.u64.wrap (Int.tdiv (Go.bits .or .u64 (IntKind.u64.wrap (x7_1 * 4294967296)) (IntKind.u64.wrap (rd l0 x8_1))) (IntKind.u64.wrap (a1)))) % 4294967296);go_wp2_with (first| ((with_reducible refine gate_store (t:=97) (p:=34) rfl ?_);refine store_event (t:=97) (p:=34) (v:=?vo_w14) (w1:=(wr.setCell ⟨go12,(x8_1:Int).toNat,none⟩ (.int .u32 ((IntKind.u64.wrap (Int.tdiv (Go.bits .or .u64 (IntKind.u64.wrap (x7_1 * 4294967296)) (IntKind.u64.wrap (rd l0 x8_1))) (IntKind.u64.wrap (a1)))) % 4294967296)))) ?hg ?ho ?hn ?hr ?_;(case ho=>rfl);(case hg=>rfl);(case hn=>rfl);(case hr=>first| (go_simp;done) | (go_simp;rfl));intro w14 hw;have hg:wr.grownBy w14 (some go12):=(by rw[hw];exact HP13.2);have hp_:Kd.R (Kd.int .u32) 97 w14 w.heap.size (fun k_=>(w.heap.size≤k_)) (.slice (some ⟨go12,0,none⟩) x6_1.length co12) y172:=(by rw[hw,Ny172.out];exact HP13.1);clear HP13;replace HO_6:=Aside0.mk hp_;replace HB:=Aside0.mk (by rw[hw];exact below_set (HB.out) GB12.out:Below w.heap.size w w14);clear hg hw hp_))
     go_roundg k1
     case measure=>have:=HK1.out;omega
     case rel=>exact⟨(y172),(Int.tmod (Go.bits .or .u64 (IntKind.u64.wrap (x7_1 * 4294967296)) (IntKind.u64.wrap (rd l0 x8_1))) (IntKind.u64.wrap (a1))),(wrap64 (x8_1 - 1)),eS,eS,H',⟨by have:=HK1.out;omega⟩,⟨rX (h:=HO_6.out)⟩,⟨bQ⟩⟩
   ·rw[if_neg c7]at H;have c7b0:=decide_eq_false c7;clear c7;obtain⟨t173,A15,H⟩:=bO H;(try dsimp only at H);simp only[Option.some.injEq,Prod.mk.injEq]at H;obtain⟨rfl,rfl⟩:=H;obtain⟨Ao16,co16,eo16⟩:=Kd.R_slice HO_6.out;subst eo16;go_wp2_with (first| (refine gF 94 ?_;refine gl_ (some 40) Tryd.func94 #[.slice Ao16 x6_1.length co16] ?_;(with_reducible refine(nat_trim.calls k1 (fun k_=>some k_=(.slice Ao16 x6_1.length co16:Value).ownBlock) _ _ x6_1 t173 _ (Kd.R_V (Kd.R_tight rfl (HO_6.out))) A15.out).mono ?_);rintro e w17 ⟨v174,rfl,ho0,hb⟩;refine⟨_,rfl,?_⟩;have HO175:=Aside0.mk (Kd.V_lower (Kd.V_mono (ok':=fun k_=>(w.heap.size≤k_)) ho0 (fun k_ hk_=>Or.elim hk_ (fun hs_=>((HO_6.out).1 k_ hs_.symm)) (fun hn_=>(Nat.le_trans (below_size bQ) hn_)))) (below_size bQ));replace HO_6:=rB HO_6 hb;replace HB:=hsQ hb;(try clear hb);(try clear hi);(try clear ho0)))
    go_ret2;exact⟨_,eQ,vX (h:=HO175.out),bQ⟩
def bits_LeadingZeros32.f(a0:Int):Option (Int):=(bits_Len32.f a0).bind fun t176=>(some (wrap64 (32 - t176)))
theorem bits_LeadingZeros32.calls(a0:Int)(r:Int)(w:World)(h:bits_LeadingZeros32.f a0=some r):
  Calls Tryd.prog 95 #[.int .u32 a0] w fun e w'=>e= .returned (.int .i64 r)∧Drawn0 w w':=by
 have H:=h;clear h;unfold bits_LeadingZeros32.f at H;obtain⟨t176,A2,H⟩:=bO H;(try dsimp only at H);obtain rfl:=Option.some.inj H;go_enter Tryd.func95,Tryd.ntmps95
 go_wp2_with (first| (refine gF 91 ?_;refine gl_ (some 4) Tryd.func91 #[.int .u32 a0] ?_;(with_reducible refine(bits_Len32.calls a0 t176 _ A2.out).mono ?_);rintro e w' ⟨rfl,⟨nd,rfl⟩⟩;refine⟨_,rfl,?_⟩))
 go_ret;exact⟨by first|rfl| (simp;done) | (simp[*];done),by repeat(first|exact Drawn0.refl _|apply Drawn0.step)⟩
def nat_left.l0:Nat→Int→List Int→List Int→Int→Int→Option (List Int)
 |0,_,_,_,_,_=>none
 |k+1,x1,x5,x13,x14,x15=>if x15< x14 then(if 0≤x15 then(if x15< (x13.length:Int)then(if 0≤x1 then(if x15< (x5.length:Int)then(if 0≤(wrap64 (x15+1))then(if(wrap64 (x15+1))< (x5.length:Int)then(nat_left.l0 k x1 ((x5.set (x15:Int).toNat (Go.bits .or .u32 (rd x5 x15) ((shl .u64 (IntKind.u64.wrap (rd x13 x15)) x1) % 4294967296))).set ((wrap64 (x15+1)):Int).toNat (((shl .u64 (IntKind.u64.wrap (rd x13 x15)) x1) / 4294967296) % 4294967296)) x13 x14 (wrap64 (x15+1)))else(none))else(none))else(none))else(none))else(none))else(none))else(some x5)
def nat_left.f(k:Nat)(l0:List Int)(a1:Int):Option (List Int):=if 0≤(wrap64 ((l0.length:Int) +1))then(if(wrap64 ((l0.length:Int) +1):Int).toNat≤70368744177664 then(nat_left.l0 k a1 (List.replicate (wrap64 ((l0.length:Int) +1):Int).toNat 0) l0 (l0.length:Int) 0)else(none))else(none)
theorem nat_left.calls(k:Nat)(A0:Option Addr)(c0:Nat)(l0:List Int)(a1:Int)(r:List Int)(w:World)(hr0:Kd.C (Kd.int .u32) w A0 l0.length l0)(hc0:l0.length≤c0)(h:nat_left.f k l0 a1=some r):
  Calls Tryd.prog 96 #[.slice A0 l0.length c0,.int .i64 a1] w fun e w'=> ∃v0_:Value,e= .returned (v0_)∧Kd.R (Kd.int .u32) 97 w' w.heap.size (fun _=>True) v0_ r∧Below w.heap.size w w':=by
 have HR0:=Aside0.mk hr0;have HC0:=Aside0.mk hc0;clear hr0 hc0;have HB:=Aside0.mk (Below.refl w.heap.size w);have H:=h;clear h;unfold nat_left.f at H;obtain⟨ji3,hji3⟩: ∃j_:Int,(wrap64 ((l0.length:Int) +1))=j_:=⟨_,rfl⟩;(first|rw[hji3]at H|simp only[hji3]at H);have hji3w:(IntKind.i64.wrap ((l0.length:Int) +1))=ji3:=(i64_w _).trans hji3;replace H:=iN H;obtain⟨c4,H⟩:=H;have c4b0:=eq_true c4;have c4b1:=decide_eq_true c4;clear c4;replace H:=iN H;obtain⟨c5,H⟩:=H;have c5b0:=eq_true c5;have c5b1:=decide_eq_true c5;clear c5;obtain⟨y177,hy177⟩: ∃y_:List Int,y_=(List.replicate (ji3:Int).toNat 0):=⟨_,rfl⟩;(first|replace H:=by_ hy177 H|rw[←hy177]at H);(try dsimp only at H);have Ny177:=Aside0.mk hy177;clear hy177;have H':=Aside0.mk H;clear H;go_enter Tryd.func96,Tryd.ntmps96
 go_wp2_with (first| (refine gD 12 ?_;refine Kd.R_make (Kd.int .u32) _ 97 rfl (N:=12) rfl 40 _ _ rfl ji3 rfl rfl Tryd.underlying40 (.int .u32 0) 4 info97 rfl (by decide) (by omega) 0 (ok:=fun _=>True) (okp:=fun _=>True) rfl (fun _ hk=>hk) trivial (dQ) (Nat.le_trans (Nat.mul_le_mul_right _ (dQ:ji3.toNat≤70368744177664)) (by omega)) (Below.refl _ _) (Nat.le_refl _) ?_;intro v178 w6 ho7 hb hg_ hnew_;clear hg_ hnew_;(first|rw[←Ny177.out]at ho7| (simp only[Int.reduceToNat]at ho7;rw[←Ny177.out]at ho7));have HO179:=rL w ho7;replace HB:=hsQ hb;clear hb ho7))
 go_loopg [15] k (fun kq v15 w'=> ∃ (x5_1:List Int) (x15_1:Int),v15= .int .i64 x15_1∧Aside0 (nat_left.l0 kq a1 x5_1 l0 (l0.length:Int) x15_1=some r)∧Aside0 (kq≤k)∧Aside0 (Kd.R (Kd.int .u32) 97 w' w.heap.size (fun _=>True) v178 x5_1)∧Aside0 (Below w.heap.size w w'))
 case atStart=>exact⟨(y177),(0),eS,H',⟨Nat.le_refl _⟩,⟨rX (h:=HO179.out)⟩,⟨bQ⟩⟩
 case round=>
  clear H';(try clear p2);(try clear c4);(try clear c4b0);(try clear c4b1);(try clear c5);(try clear c5b0);(try clear c5b1);(try clear p6);obtain⟨x5_1,x15_1,rfl,HA,HK1,HO_5,HB⟩:=hrel;cases gk with
  |zero=>exact absurd HA.out (by simp[nat_left.l0])
  |succ k1=>
   have H:=HA.out;clear HA;simp only[nat_left.l0]at H;by_cases c8:x15_1< (l0.length:Int)
   ·rw[if_pos c8]at H;have c8b0:=decide_eq_true c8;clear c8;replace H:=iN H;obtain⟨c9,H⟩:=H;have c9b0:=decide_eq_true c9;clear c9;replace H:=iN H;obtain⟨c10,H⟩:=H;have c10b0:=decide_eq_true c10;clear c10;replace H:=iN H;obtain⟨c11,H⟩:=H;have c11b0:=eq_true c11;have c11b1:=decide_eq_true c11;clear c11;obtain⟨ji12,hji12⟩: ∃j_:Int,(shl .u64 (IntKind.u64.wrap (rd l0 x15_1)) a1)=j_:=⟨_,rfl⟩;(first|rw[hji12]at H|simp only[hji12]at H);have hji12_:(IntKind.u64.wrap ((IntKind.u64.wrap (rd l0 x15_1)) * 2 ^ min a1.toNat 64))=ji12:=hji12;have hji12z:a1≤64→(IntKind.u64.wrap ((IntKind.u64.wrap (rd l0 x15_1)) * 2 ^ a1.toNat))=ji12:=shl_small hji12;replace H:=iN H;obtain⟨c13,H⟩:=H;have c13b0:=decide_eq_true c13;clear c13;obtain⟨y182,hy182⟩: ∃y_:List Int,y_=(x5_1.set (x15_1:Int).toNat (Go.bits .or .u32 (rd x5_1 x15_1) ((ji12) % 4294967296))):=⟨_,rfl⟩;(first|replace H:=by_ hy182 H|rw[←hy182]at H);(try dsimp only at H);have Ny182:=Aside0.mk hy182;clear hy182;obtain⟨ji15,hji15⟩: ∃j_:Int,(wrap64 (x15_1+1))=j_:=⟨_,rfl⟩;(first|rw[hji15]at H|simp only[hji15]at H);have hji15w:(IntKind.i64.wrap (x15_1+1))=ji15:=(i64_w _).trans hji15;replace H:=iN H;obtain⟨c16,H⟩:=H;have c16b0:=decide_eq_true c16;clear c16;replace H:=iN H;obtain⟨c17,H⟩:=H;have c17b0:=decide_eq_true c17;clear c17;obtain⟨y183,hy183⟩: ∃y_:List Int,y_=(y182.set ((ji15):Int).toNat (((ji12) / 4294967296) % 4294967296)):=⟨_,rfl⟩;(first|replace H:=by_ hy183 H|rw[←hy183]at H);(try dsimp only at H);have Ny183:=Aside0.mk hy183;clear hy183;have H':=Aside0.mk H;clear H;have p180:0≤(x15_1:Int):=dQ;have q180:x15_1< (l0.length:Int):=dQ;obtain⟨ad180,e180,hx180_0⟩:=Kd.at_int HR0.out x15_1 p180 q180;cases e180;replace hx180_0:=cE HB.out hx180_0;replace p180:=eq_true p180;replace q180:=eq_true q180;obtain⟨Ao19,co19,eo19⟩:=Kd.R_slice HO_5.out;subst eo19;have p181:0≤(x15_1:Int):=dQ;have q181:x15_1< (x5_1.length:Int):=dQ;obtain⟨ad181,e181,hx181_0⟩:=Kd.at_int (Kd.R_reads' HO_5.out).2.2 x15_1 p181 q181;cases e181;replace p181:=eq_true p181;replace q181:=eq_true q181;have p14:0≤(x15_1:Int):=dQ;have q14:(x15_1:Int)< ((x5_1.length:Int):Int):=dQ;obtain⟨go14,co14,eo14,gb14,gl14,cl14,HG14⟩:=Kd.R_form HO_5.out (by omega);(first|cases eo14| (injection eo14 with ea_ en_ ec_;(first|subst ea_| (injection ea_ with ea_;subst ea_));subst ec_;clear en_));have GB14:=Aside0.mk gb14;have GG14:=Aside0.mk HG14;clear gb14 gl14 HG14;(first|simp only[add_plain]at hx181_0|skip);obtain⟨hx14_0,hf14_0⟩:=Kd.R_celln 0 HO_5.out (x15_1:Int) p14 q14;replace p14:=eq_true p14;replace q14:=eq_true q14;have HP20:=Kd.R_putg HO_5.out (x15_1:Int) (Go.bits .or .u32 (rd x5_1 x15_1) ((ji12) % 4294967296));go_wp2_with (first| ((with_reducible refine gate_store (t:=97) (p:=31) rfl ?_);refine store_event (t:=97) (p:=31) (v:=?vo_w21) (w1:=(wr.setCell ⟨go14,(x15_1:Int).toNat,none⟩ (.int .u32 (Go.bits .or .u32 (rd x5_1 x15_1) ((ji12) % 4294967296))))) ?hg ?ho ?hn ?hr ?_;(case ho=>rfl);(case hg=>rfl);(case hn=>rfl);(case hr=>first| (go_simp;done) | (go_simp;rfl));intro w21 hw;have hg:wr.grownBy w21 (some go14):=(by rw[hw];exact HP20.2);have hp_:Kd.R (Kd.int .u32) 97 w21 w.heap.size (fun _=>True) (.slice (some ⟨go14,0,none⟩) x5_1.length co19) y182:=(by rw[hw,Ny182.out];exact HP20.1);clear HP20;replace HO_5:=Aside0.mk hp_;replace HB:=Aside0.mk (by rw[hw];exact below_set (HB.out) GB14.out:Below w.heap.size w w21);clear hg hw hp_;have p18:0≤((ji15):Int):=dQ;have q18:((ji15):Int)< ((x5_1.length:Int):Int):=dQ;obtain⟨hx18_0,hf18_0⟩:=Kd.R_celln 0 HO_5.out ((ji15):Int) p18 q18;replace p18:=eq_true p18;replace q18:=eq_true q18;obtain⟨hy22_,hz22_⟩:=Kd.R_celln 0 HO_5.out ((ji15):Int) (dQ) (dQ);have HP22:=Kd.R_putg HO_5.out ((ji15):Int) (((ji12) / 4294967296) % 4294967296)) | ((with_reducible refine gate_store (t:=97) (p:=38) rfl ?_);refine store_event (t:=97) (p:=38) (v:=?vo_w23) (w1:=(w21.setCell ⟨go14,((ji15):Int).toNat,none⟩ (.int .u32 (((ji12) / 4294967296) % 4294967296)))) ?hg ?ho ?hn ?hr ?_;(case ho=>rfl);(case hg=>rfl);(case hn=>rfl);(case hr=>first| (go_simp;done) | (go_simp;rfl));intro w23 hw;have hg:w21.grownBy w23 (some go14):=(by rw[hw];exact HP22.2);have hp_:Kd.R (Kd.int .u32) 97 w23 w.heap.size (fun _=>True) (.slice (some ⟨go14,0,none⟩) x5_1.length co19) y183:=(by rw[hw,Ny183.out];exact HP22.1);clear HP22;replace HO_5:=Aside0.mk hp_;replace HB:=Aside0.mk (by rw[hw];exact below_set (HB.out) GB14.out:Below w.heap.size w w23);clear hg hw hp_))
    go_roundg k1
    case measure=>have:=HK1.out;omega
    case rel=>exact⟨(y183),(ji15),(by first|rfl| (simp;done) | (simp only[←hji15] <;>(first|rfl|simp)) | (simp[*];done)),H',⟨by have:=HK1.out;omega⟩,⟨rX (h:=HO_5.out)⟩,⟨bQ⟩⟩
   ·rw[if_neg c8]at H;have c8b0:=decide_eq_false c8;clear c8;obtain rfl:=Option.some.inj H;go_wp2
    go_ret;exact⟨_,by first|rfl| (simp[errW_none,errW_some] <;>rfl) | (simp only[←hji3];first|rfl| (simp[errW_none,errW_some] <;>rfl)) | (simp[*,errW_none,errW_some] <;>rfl),rX (h:=HO_5.out),bQ⟩
def nat_at.f(l0:List Int)(a1:Int):Option (Int):=if a1< (l0.length:Int)then(if 0≤a1 then(some (IntKind.u64.wrap (rd l0 a1)))else(none))else(some 0)
theorem nat_at.calls(A0:Option Addr)(c0:Nat)(l0:List Int)(a1:Int)(r:Int)(w:World)(hr0:Kd.C (Kd.int .u32) w A0 l0.length l0)(hc0:l0.length≤c0)(h:nat_at.f l0 a1=some r):
  Calls Tryd.prog 100 #[.slice A0 l0.length c0,.int .i64 a1] w fun e w'=>e= .returned (.int .u64 r)∧Drawn0 w w':=by
 have HR0:=Aside0.mk hr0;have HC0:=Aside0.mk hc0;clear hr0 hc0;have H:=h;clear h;unfold nat_at.f at H;by_cases c3:a1< (l0.length:Int)
 ·rw[if_pos c3]at H;have c3b0:=decide_eq_true c3;clear c3;replace H:=iN H;obtain⟨c4,H⟩:=H;have c4b0:=decide_eq_true c4;clear c4;obtain rfl:=Option.some.inj H;have p184:0≤(a1:Int):=dQ;have q184:a1< (l0.length:Int):=dQ;obtain⟨ad184,e184,hx184_0⟩:=Kd.at_int HR0.out a1 p184 q184;cases e184;replace p184:=eq_true p184;replace q184:=eq_true q184;go_enter Tryd.func100,Tryd.ntmps100
  go_wp2
  go_ret;exact⟨by first|rfl| (simp;done) | (simp[*];done),by repeat(first|exact Drawn0.refl _|apply Drawn0.step)⟩
 ·rw[if_neg c3]at H;have c3b0:=decide_eq_false c3;clear c3;obtain rfl:=Option.some.inj H;go_enter Tryd.func100,Tryd.ntmps100
  go_wp2
  go_ret;exact⟨by first|rfl| (simp;done) | (simp[*];done),by repeat(first|exact Drawn0.refl _|apply Drawn0.step)⟩
structure WinU (w:World) (base g cap i m:Nat) (us xs:List Int):Prop where
 own:w.ownsRow base 97 1 (.slice (some ⟨g,0,none⟩) us.length cap) us.length (encs (Value.int .u32) (us.take i++ (xs++us.drop (i+m))))
 len:xs.length=m
 le:i+m≤us.length
theorem WinU.get{us xs:List Int}{i m:Nat}(hl:xs.length=m)(hi:i+m≤us.length){j:Nat}(hj:j< m):(us.take i++ (xs++us.drop (i+m))).getD (i+j) 0=xs.getD j 0:=by
 have e:(us.take i).length=i:=by rw[List.length_take];omega
 rw[List.getD_eq_getElem?_getD,List.getD_eq_getElem?_getD,List.getElem?_append_right (by omega),e,Nat.add_sub_cancel_left,List.getElem?_append_left (by omega)]
theorem WinU.set{us xs:List Int}{i m:Nat}(hl:xs.length=m)(hi:i+m≤us.length){j:Nat}(hj:j< m)(x:Int):(us.take i++ (xs++us.drop (i+m))).set (i+j) x=us.take i++ (xs.set j x++us.drop (i+m)):=by
 have e:(us.take i).length=i:=by rw[List.length_take];omega
 rw[List.set_append_right _ _ (by omega),e,Nat.add_sub_cancel_left,List.set_append_left _ _ (by omega)]
theorem WinU.at_{w:World}{base g cap i m:Nat}{us xs:List Int}(h:WinU w base g cap i m us xs)(j:Int)(h0:0≤j)(h1:j< (xs.length:Int)):
  w.cell? ((⟨g,i,none⟩:Addr).add j.toNat)=some (.int .u32 (rd xs j))∧w.cell? ⟨g,i+j.toNat,none⟩=some (.int .u32 (rd xs j))∧w.frozen? ⟨g,i+j.toNat,none⟩=false∧w.frozen? ((⟨g,i,none⟩:Addr).add j.toNat)=false:=by
 have hl:=h.len;have hi:=h.le;obtain⟨n,rfl⟩:=Int.eq_ofNat_of_zero_le h0;rw[Int.toNat_natCast];have h2:=own_at_of (d:=(0:Int)) h.own (((i+n:Nat):Nat):Int) (by omega) (by omega);rw[Int.toNat_natCast,rdOf,Int.toNat_natCast,WinU.get hl hi (by omega)]at h2;rw[add_at];exact⟨h2.1,h2.1,h2.2,h2.2⟩
theorem WinU.put{w:World}{base g cap i m:Nat}{us xs:List Int}(h:WinU w base g cap i m us xs)(j:Int)(h0:0≤j)(h1:j< (xs.length:Int))(x:Int):
  WinU (w.setCell ⟨g,i+j.toNat,none⟩ (.int .u32 x)) base g cap i m us (xs.set j.toNat x)∧w.grownBy (w.setCell ⟨g,i+j.toNat,none⟩ (.int .u32 x)) (some g):=by
 have hl:=h.len;have hi:=h.le;obtain⟨n,rfl⟩:=Int.eq_ofNat_of_zero_le h0;rw[Int.toNat_natCast];have h2:=own_store_of h.own (((i+n:Nat):Nat):Int) x;rw[Int.toNat_natCast,WinU.set hl hi (by omega)]at h2;exact⟨⟨h2.1,by rw[List.length_set];exact hl,hi⟩,h2.2⟩
theorem WinU.drew{w:World}{base g cap i m:Nat}{us xs:List Int}(h:WinU w base g cap i m us xs)(n:Nat):WinU (w.drewN n) base g cap i m us xs:=⟨own_move h.own (fun _ _=>rfl),h.len,h.le⟩
theorem WinU.size{w:World}{base g cap i m:Nat}{us xs:List Int}(h:WinU w base g cap i m us xs):base≤g∧g< w.heap.size:=by
 have:=h.own.lt g (by simp[Value.ownBlock])
 exact this
def nat_take.l0:Nat→List Int→List Int→Int→Int→Int→Int→Int→Option (Bool×List Int)
 |0,_,_,_,_,_,_,_=>none
 |k+1,x0,x1,x2,x7,x8,x12,x13=>if x13< x12 then((nat_at.f x1 x13).bind fun t211=>(if 0≤x13 then(if x13< (x0.length:Int)then(nat_take.l0 k (x0.set (x13:Int).toNat ((IntKind.u64.wrap ((IntKind.u64.wrap ((IntKind.u64.wrap (rd x0 x13)) - (Go.bits .and .u64 (IntKind.u64.wrap (x7+ (IntKind.u64.wrap (x2 * t211)))) 4294967295))) - x8)) % 4294967296)) x1 x2 ((IntKind.u64.wrap (x7+ (IntKind.u64.wrap (x2 * t211)))) / 4294967296) ((IntKind.u64.wrap ((IntKind.u64.wrap ((IntKind.u64.wrap (rd x0 x13)) - (Go.bits .and .u64 (IntKind.u64.wrap (x7+ (IntKind.u64.wrap (x2 * t211)))) 4294967295))) - x8)) / 9223372036854775808) x12 (wrap64 (x13+1)))else(none))else(none)))else(some ((x8==0),x0))
def nat_take.f(k:Nat)(l0:List Int)(l1:List Int)(a2:Int):Option (Bool×List Int):=nat_take.l0 k l0 l1 a2 0 0 (l0.length:Int) 0
theorem nat_take.calls(k:Nat)(base g cap i m c:Nat)(us xs:List Int)(A1:Option Addr)(c1:Nat)(l1:List Int)(a2:Int)(r1:Bool)(r2:List Int)(w:World)(hr0:WinU w base g cap i m us xs)(hr1: ∀W_,w.grownBy W_ (some g)→Kd.C (Kd.int .u32) W_ A1 l1.length l1)(hc1:l1.length≤c1)(h:nat_take.f k xs l1 a2=some (r1,r2)):
  Calls Tryd.prog 97 #[.slice (some ⟨g,i,none⟩) m c,.slice A1 l1.length c1,.int .u64 a2] w fun e w'=>e= .returned (.bool r1)∧WinU w' base g cap i m us r2∧w.grownBy w' (some g):=by
 have hm:=hr0.len;subst hm;have HO:=Aside0.mk hr0;have HR1:=Aside0.mk hr1;have HC1:=Aside0.mk hc1;have HG:=Aside0.mk (World.grownBy.refl w (some g));clear hr1 hc1 hr0;have H':=Aside0.mk (show nat_take.l0 k xs l1 a2 0 0 (xs.length:Int) 0=some (r1,r2)from h);clear h;go_enter Tryd.func97,Tryd.ntmps97
 go_wp2
 go_loopg [7,8,13] k (fun kq v7 v8 v13 w'=> ∃ (x0:List Int) (x7 x8 x13:Int),v7= .int .u64 x7∧v8= .int .u64 x8∧v13= .int .i64 x13∧Aside0 (nat_take.l0 kq x0 l1 a2 x7 x8 (xs.length:Int) x13=some (r1,r2))∧Aside0 (kq≤k)∧Aside0 (WinU w' base g cap i xs.length us x0)∧Aside0 (w.grownBy w' (some g)))
 case atStart=>exact⟨xs,0,0,0,rfl,rfl,rfl,H',⟨Nat.le_refl _⟩,HO,HG⟩
 case round=>
  clear H' HO HG;obtain⟨x0,x7,x8,x13,rfl,rfl,rfl,HA,HK1,HO,HG⟩:=hrel;have hlen:=HO.out.len;cases gk with
  |zero=>exact absurd HA.out (by simp[nat_take.l0])
  |succ k1=>
   have H:=HA.out;clear HA;simp only[nat_take.l0]at H;by_cases c5:x13< (xs.length:Int)
   ·rw[if_pos c5]at H;obtain⟨t,A6,H⟩:=Option.bind_eq_some_iff.mp H;have A6:=Aside0.mk A6;by_cases c7:0≤x13
    ·rw[if_pos c7,if_pos (by omega)]at H;have H':=Aside0.mk H;clear H;go_wp2_with fail
     refine(nat_at.calls _ _ l1 x13 t _ (HR1.out _ HG.out) HC1.out A6.out).mono ?_;rintro e w' ⟨rfl,⟨nd,rfl⟩⟩;generalize hq_:World.drewN wr nd=w2;have HO2:=Aside0.mk (show WinU w2 base g cap i xs.length us x0 from hq_▸HO.out.drew nd);have HG2:=Aside0.mk (show w.grownBy w2 (some g)from hq_▸⟨HG.out.os,HG.out.tape,HG.out.output,HG.out.size,HG.out.block⟩);clear hq_ HO HG;obtain⟨hx1,hx2,hx3,hx4⟩:=HO2.out.at_ x13 c7 (by omega);have HP:=Aside0.mk (HO2.out.put x13 c7 (by omega) ((IntKind.u64.wrap ((IntKind.u64.wrap ((IntKind.u64.wrap (rd x0 x13)) - (Go.bits .and .u64 (IntKind.u64.wrap (x7+ (IntKind.u64.wrap (a2 * t)))) 4294967295))) - x8)) % 4294967296));go_wp2_with fail
     go_roundg k1
     case measure=>have:=HK1.out;omega
     case rel=>exact⟨_,_,_,_,rfl,rfl,rfl,H',⟨by have:=HK1.out;omega⟩,⟨HP.out.1⟩,⟨HG2.out.trans HP.out.2⟩⟩
    ·rw[if_neg c7]at H;exact absurd H (by simp)
   ·rw[if_neg c5]at H;simp only[Option.some.injEq,Prod.mk.injEq]at H;obtain⟨rfl,rfl⟩:=H;go_wp2
    go_ret;exact⟨rfl,HO.out,HG.out⟩
def nat_give.l0:Nat→List Int→List Int→Int→Int→Int→Option (List Int)
 |0,_,_,_,_,_=>none
 |k+1,x0,x1,x4,x7,x8=>if x8< x7 then(if 0≤x8 then(if x8< (x0.length:Int)then((nat_at.f x1 x8).bind fun t217=>(nat_give.l0 k (x0.set (x8:Int).toNat ((IntKind.u64.wrap (x4+ (IntKind.u64.wrap ((IntKind.u64.wrap (rd x0 x8)) +t217)))) % 4294967296)) x1 ((IntKind.u64.wrap (x4+ (IntKind.u64.wrap ((IntKind.u64.wrap (rd x0 x8)) +t217)))) / 4294967296) x7 (wrap64 (x8+1))))else(none))else(none))else(some x0)
def nat_give.f(k:Nat)(l0:List Int)(l1:List Int):Option (List Int):=nat_give.l0 k l0 l1 0 (l0.length:Int) 0
theorem nat_give.calls(k:Nat)(base g cap i m c:Nat)(us xs:List Int)(A1:Option Addr)(c1:Nat)(l1:List Int)(r2:List Int)(w:World)(hr0:WinU w base g cap i m us xs)(hr1: ∀W_,w.grownBy W_ (some g)→Kd.C (Kd.int .u32) W_ A1 l1.length l1)(hc1:l1.length≤c1)(h:nat_give.f k xs l1=some r2):
  Calls Tryd.prog 98 #[.slice (some ⟨g,i,none⟩) m c,.slice A1 l1.length c1] w fun e w'=>e= .returned (.tuple #[])∧WinU w' base g cap i m us r2∧w.grownBy w' (some g):=by
 have hm:=hr0.len;subst hm;have HO:=Aside0.mk hr0;have HR1:=Aside0.mk hr1;have HC1:=Aside0.mk hc1;have HG:=Aside0.mk (World.grownBy.refl w (some g));clear hr1 hc1 hr0;have H':=Aside0.mk (show nat_give.l0 k xs l1 0 (xs.length:Int) 0=some r2 from h);clear h;go_enter Tryd.func98,Tryd.ntmps98
 go_wp2
 go_loopg [4,8] k (fun kq v4 v8 w'=> ∃ (x0:List Int) (x4 x8:Int),v4= .int .u64 x4∧v8= .int .i64 x8∧Aside0 (nat_give.l0 kq x0 l1 x4 (xs.length:Int) x8=some r2)∧Aside0 (kq≤k)∧Aside0 (WinU w' base g cap i xs.length us x0)∧Aside0 (w.grownBy w' (some g)))
 case atStart=>exact⟨xs,0,0,rfl,rfl,H',⟨Nat.le_refl _⟩,HO,HG⟩
 case round=>
  clear H' HO HG;obtain⟨x0,x4,x8,rfl,rfl,HA,HK1,HO,HG⟩:=hrel;have hlen:=HO.out.len;cases gk with
  |zero=>exact absurd HA.out (by simp[nat_give.l0])
  |succ k1=>
   have H:=HA.out;clear HA;simp only[nat_give.l0]at H;by_cases c5:x8< (xs.length:Int)
   ·rw[if_pos c5]at H;by_cases c7:0≤x8
    ·rw[if_pos c7,if_pos (by omega)]at H;obtain⟨t,A6,H⟩:=Option.bind_eq_some_iff.mp H;have A6:=Aside0.mk A6;have H':=Aside0.mk H;clear H;obtain⟨hx1,hx2,hx3,hx4⟩:=HO.out.at_ x8 c7 (by omega);go_wp2_with fail
     go_quiet (first| (go_at_call 100;(with_reducible refine(nat_at.calls _ _ l1 x8 t _ (HR1.out _ ?sg) HC1.out A6.out).mono ?_);(case sg=>exact⟨HG.out.os,HG.out.tape,HG.out.output,HG.out.size,HG.out.block⟩);rintro e w' ⟨rfl,⟨nd,rfl⟩⟩;(try first|exact⟨rfl,_,World.drewN_drewN _ _ _⟩ |exact⟨rfl,_,Eq.trans (World.drewN_drewN _ _ _) (congrArg (World.drewN _) (Nat.add_assoc _ _ _))⟩)))
     generalize hq_:World.drewN wr _=w2;have HO2:=Aside0.mk (show WinU w2 base g cap i xs.length us x0 from hq_▸HO.out.drew _);have HG2:=Aside0.mk (show w.grownBy w2 (some g)from hq_▸⟨HG.out.os,HG.out.tape,HG.out.output,HG.out.size,HG.out.block⟩);clear hq_ HO HG hx1 hx2 hx3 hx4;obtain⟨hx1,hx2,hx3,hx4⟩:=HO2.out.at_ x8 c7 (by omega);have HP:=Aside0.mk (HO2.out.put x8 c7 (by omega) (IntKind.u64.wrap (x4+IntKind.u64.wrap (IntKind.u64.wrap (rd x0 x8) +t)) % 4294967296));go_wp2_with fail
     go_roundg k1
     case measure=>have:=HK1.out;omega
     case rel=>exact⟨_,_,_,rfl,rfl,H',⟨by have:=HK1.out;omega⟩,⟨HP.out.1⟩,⟨HG2.out.trans HP.out.2⟩⟩
    ·rw[if_neg c7]at H;exact absurd H (by simp)
   ·rw[if_neg c5]at H;simp only[Option.some.injEq]at H;subst H;go_wp2
    first|go_end0| ((try simp only[Exit.inBlock,Exit.then]);refine bodyPost_ret (results_none rfl _ _ _) rfl ?_)
    exact⟨rfl,HO.out,HG.out⟩
end Go.Proofs.YtjjbondlcjnaiaaDoor.PSparseJoined
