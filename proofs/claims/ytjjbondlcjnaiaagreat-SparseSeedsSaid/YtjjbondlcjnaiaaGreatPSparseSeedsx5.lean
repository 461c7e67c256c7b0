-- written by a program of this session, after the kit's print
import Derived.Test.YtjjbondlcjnaiaaGreatPSparseSeedsx0
namespace Go.Proofs.YtjjbondlcjnaiaaGreat.PSparseSeeds
open Go.RowKit Go.Proofs.YtjjbondlcjnaiaaGreatW.PrintWords Go.Proofs.YtjjbondlcjnaiaaGreatW.PrintLast Go.Proofs.YtjjbondlcjnaiaaGreatW.PrintMore
set_option maxHeartbeats 8000000
set_option maxRecDepth 100000
attribute [local go_sem] max2_int min2_int max_two min_two max_three min_three max_four min_four
set_option linter.unusedVariables false
set_option linter.unusedSimpArgs false
def sparse_seeded.l0:Nat→List Int→Int→List Int→Int→Int→Option (Int×Int)
 |0,_,_,_,_,_=>none
 |k+1,x0,x4,x10,x11,x12=>if x12< x11 then(if 0≤x12 then(if x12< (x10.length:Int)then(if(rd x10 x12)< 0 then(some (0,2))else(if(rd x10 x12)≥(x0.length:Int)then(some (0,2))else(sparse_seeded.l0 k x0 (mx x4 (wrap64 ((rd x10 x12) +1))) x10 x11 (wrap64 (x12+1)))))else(none))else(none))else(some (x4,0))
def sparse_seeded.f(k:Nat)(l0:List Int):Option (Int×Int):=if(l0.length:Int) >4096 then(some (0,3))else(sparse_seeded.l0 k l0 0 l0 (l0.length:Int) 0)
theorem sparse_seeded.calls(k:Nat)(A0:Option Addr)(c0:Nat)(l0:List Int)(r1:Int)(r2:Int)(w:World)(hr0:Kd.C (Kd.int .i64) w A0 l0.length l0)(hc0:l0.length≤c0)(h:sparse_seeded.f k l0=some (r1,r2)):
  Calls Tryz.prog 37 #[.slice A0 l0.length c0] w fun e w'=>e= .returned (.tuple #[.int .i64 r1,.int .i64 r2])∧Below w.heap.size w w':=by
 have HR0:=Aside0.mk hr0;have HC0:=Aside0.mk hc0;clear hr0 hc0;have HB:=Aside0.mk (Below.refl w.heap.size w);have H:=h;clear h;unfold sparse_seeded.f at H;by_cases c2:(l0.length:Int) >4096
 ·rw[if_pos c2]at H;have c2b0:=decide_eq_true c2;have c2b1:decide (4096< l0.length)=true:=decide_eq_true (by omega);clear c2;simp only[Option.some.injEq,Prod.mk.injEq]at H;obtain⟨rfl,rfl⟩:=H;go_enter Tryz.func37,Tryz.ntmps37
  go_wp2
  go_ret2;exact⟨eQ,bQ⟩
 ·rw[if_neg c2]at H;have c2b0:=decide_eq_false c2;have c2b1:decide (4096< l0.length)=false:=decide_eq_false (by omega);clear c2;have H':=Aside0.mk H;clear H;go_enter Tryz.func37,Tryz.ntmps37
  go_wp2
  go_loopg [4,12] k (fun kq v4 v12 w'=> ∃ (x4_1:Int) (x12_1:Int),v4= .int .i64 x4_1∧v12= .int .i64 x12_1∧Aside0 (sparse_seeded.l0 kq l0 x4_1 l0 (l0.length:Int) x12_1=some (r1,r2))∧Aside0 (kq≤k)∧Aside0 (Below w.heap.size w w'))
  case atStart=>exact⟨(0),(0),eS,eS,H',⟨Nat.le_refl _⟩,⟨bQ⟩⟩
  case round=>
   clear H';(try clear c2);(try clear c2b0);(try clear c2b1);(try clear p2);obtain⟨x4_1,x12_1,rfl,rfl,HA,HK1,HB⟩:=hrel;cases gk with
   |zero=>exact absurd HA.out (by simp[sparse_seeded.l0])
   |succ k1=>
    have H:=HA.out;clear HA;simp only[sparse_seeded.l0]at H;by_cases c3:x12_1< (l0.length:Int)
    ·rw[if_pos c3]at H;have c3b0:=decide_eq_true c3;clear c3;replace H:=iN H;obtain⟨c4,H⟩:=H;have c4b0:=decide_eq_true c4;clear c4;replace H:=iN H;obtain⟨c5,H⟩:=H;have c5b0:=decide_eq_true c5;clear c5;by_cases c6:(rd l0 x12_1)< 0
     ·rw[if_pos c6]at H;have c6b0:=decide_eq_true c6;clear c6;simp only[Option.some.injEq,Prod.mk.injEq]at H;obtain⟨rfl,rfl⟩:=H;have p160:0≤(x12_1:Int):=dQ;have q160:x12_1< (l0.length:Int):=dQ;obtain⟨ad160,e160,hx160_0⟩:=Kd.at_int HR0.out x12_1 p160 q160;cases e160;replace hx160_0:=cE HB.out hx160_0;replace p160:=eq_true p160;replace q160:=eq_true q160;go_wp2
      go_ret2;exact⟨eQ,bQ⟩
     ·rw[if_neg c6]at H;have c6b0:=decide_eq_false c6;clear c6;by_cases c7:(rd l0 x12_1)≥(l0.length:Int)
      ·rw[if_pos c7]at H;have c7b0:=decide_eq_true c7;clear c7;simp only[Option.some.injEq,Prod.mk.injEq]at H;obtain⟨rfl,rfl⟩:=H;have p160:0≤(x12_1:Int):=dQ;have q160:x12_1< (l0.length:Int):=dQ;obtain⟨ad160,e160,hx160_0⟩:=Kd.at_int HR0.out x12_1 p160 q160;cases e160;replace hx160_0:=cE HB.out hx160_0;replace p160:=eq_true p160;replace q160:=eq_true q160;go_wp2
       go_ret2;exact⟨eQ,bQ⟩
      ·rw[if_neg c7]at H;have c7b0:=decide_eq_false c7;clear c7;obtain⟨ji8,hji8⟩: ∃j_:Int,(mx x4_1 (wrap64 ((rd l0 x12_1) +1)))=j_:=⟨_,rfl⟩;(first|rw[hji8]at H|simp only[hji8]at H);have hji8_:(if x4_1< (wrap64 ((rd l0 x12_1) +1))then(wrap64 ((rd l0 x12_1) +1))else x4_1)=ji8:=hji8;have H':=Aside0.mk H;clear H;have p160:0≤(x12_1:Int):=dQ;have q160:x12_1< (l0.length:Int):=dQ;obtain⟨ad160,e160,hx160_0⟩:=Kd.at_int HR0.out x12_1 p160 q160;cases e160;replace hx160_0:=cE HB.out hx160_0;replace p160:=eq_true p160;replace q160:=eq_true q160;go_wp2
       go_roundg k1
       case measure=>have:=HK1.out;omega
       case rel=>exact⟨(ji8),(wrap64 (x12_1+1)),(by first|rfl| (simp;done) | (simp only[←hji8] <;>(first|rfl|simp)) | (simp[*];done)),eS,H',⟨by have:=HK1.out;omega⟩,⟨bQ⟩⟩
    ·rw[if_neg c3]at H;have c3b0:=decide_eq_false c3;clear c3;simp only[Option.some.injEq,Prod.mk.injEq]at H;obtain⟨rfl,rfl⟩:=H;go_wp2
     go_ret2;exact⟨eQ,bQ⟩
def nat_trim.l0:Nat→List Int→Option (List Int)
 |0,_=>none
 |k+1,x0=>if(x0.length:Int) >0 then(if 0≤(wrap64 ((x0.length:Int) - 1))then(if(wrap64 ((x0.length:Int) - 1))< (x0.length:Int)then(if(rd x0 (wrap64 ((x0.length:Int) - 1)))=0 then(if(wrap64 ((x0.length:Int) - 1))≤(x0.length:Int)then(nat_trim.l0 k (x0.take ((wrap64 ((x0.length:Int) - 1)):Int).toNat))else(none))else(some x0))else(none))else(none))else(some x0)
def nat_trim.f(k:Nat)(l0:List Int):Option (List Int):=nat_trim.l0 k l0
theorem nat_trim.calls(k:Nat)(P0_:Nat→Prop)(A0:Option Addr)(c0:Nat)(l0:List Int)(r:List Int)(w:World)(hs0:Kd.V (Kd.int .u32) 60 w w.heap.size (fun k_=>P0_ k_) (.slice A0 l0.length c0) l0)(h:nat_trim.f k l0=some r):
  Calls Tryz.prog 123 #[.slice A0 l0.length c0] w fun e w'=> ∃v0_:Value,e= .returned (v0_)∧Kd.V (Kd.int .u32) 60 w' w.heap.size (fun k_=>(P0_ k_∨w.heap.size≤k_)) v0_ r∧Below w.heap.size w w':=by
 have HO0:=Aside0.mk (show Kd.V (Kd.int .u32) 60 w w.heap.size (fun k_=>(P0_ k_∨w.heap.size≤k_)) (.slice A0 l0.length c0) l0 from Kd.V_mono hs0 (fun k_ hk=> .inl hk));have HB:=Aside0.mk (Below.refl w.heap.size w);have H:=h;clear h;unfold nat_trim.f at H;have H':=Aside0.mk H;clear H;go_enter Tryz.func123,Tryz.ntmps123
 go_wp2
 go_loopg [0] k (fun kq v0 w'=> ∃ (x0_1:List Int),Aside0 (nat_trim.l0 kq x0_1=some r)∧Aside0 (kq≤k)∧Aside0 (Kd.V (Kd.int .u32) 60 w' w.heap.size (fun k_=>(P0_ k_∨w.heap.size≤k_)) v0 x0_1)∧Aside0 (Below w.heap.size w w'))
 case atStart=>exact⟨(l0),H',⟨Nat.le_refl _⟩,⟨vX (h:=HO0.out)⟩,⟨bQ⟩⟩
 case round=>
  clear H';(try clear c1);obtain⟨x0_1,HA,HK1,HO_0,HB⟩:=hrel;cases gk with
  |zero=>exact absurd HA.out (by simp[nat_trim.l0])
  |succ k1=>
   have H:=HA.out;clear HA;simp only[nat_trim.l0]at H;by_cases c2:(x0_1.length:Int) >0
   ·rw[if_pos c2]at H;have c2b0:=decide_eq_true c2;have c2b1:decide (0< x0_1.length)=true:=decide_eq_true (by omega);clear c2;obtain⟨ji3,hji3⟩: ∃j_:Int,(wrap64 ((x0_1.length:Int) - 1))=j_:=⟨_,rfl⟩;(first|rw[hji3]at H|simp only[hji3]at H);have hji3w:(IntKind.i64.wrap ((x0_1.length:Int) - 1))=ji3:=(i64_w _).trans hji3;replace H:=iN H;obtain⟨c4,H⟩:=H;have c4b0:=decide_eq_true c4;clear c4;replace H:=iN H;obtain⟨c5,H⟩:=H;have c5b0:=decide_eq_true c5;clear c5;by_cases c6:(rd x0_1 (ji3))=0
    ·rw[if_pos c6]at H;have c6b0:=beq_iff_eq.mpr c6;have c6b1:=bne_eq_false_iff_eq.mpr c6;clear c6;have c7b0:=eq_true (dQ:0≤(ji3));replace H:=iN H;obtain⟨c8,H⟩:=H;have c8b0:=eq_true c8;have c8b1:=decide_eq_true c8;clear c8;obtain⟨y162,hy162⟩: ∃y_:List Int,y_=(x0_1.take ((ji3):Int).toNat):=⟨_,rfl⟩;(first|replace H:=by_ hy162 H|rw[←hy162]at H);(try dsimp only at H);have Ny162:=Aside0.mk hy162;clear hy162;have H':=Aside0.mk H;clear H;obtain⟨Ao9,co9,eo9⟩:=Kd.V_slice HO_0.out;subst eo9;have p161:0≤((ji3):Int):=dQ;have q161:(ji3)< (x0_1.length:Int):=dQ;obtain⟨ad161,e161,hx161_0⟩:=Kd.at_int (Kd.V_reads' HO_0.out).2.2 (ji3) p161 q161;cases e161;replace p161:=eq_true p161;replace q161:=eq_true q161;have q10:((ji3):Int)≤((x0_1.length:Int):Int):=dQ;obtain⟨i010,hi010,_,hsz10,_⟩:=info_parts info60;have hroom10:x0_1.length≤co9:=(Kd.V_reads' HO_0.out).2.1;have hC10:Kd.F (Kd.int .u32) _ _ (some ad161) x0_1.length x0_1:=(Kd.V_at (base:=w.heap.size) HO_0.out).2.2;have hcut10:=cut_to (P:=Tryz.prog) 57 60 .i64 Tryz.underlying57 hi010 (some ad161) x0_1.length co9 (ji3) (dQ) q10 hroom10;have hr10:=Kd.F_take (m:=((ji3):Int).toNat) hC10 (by omega);have hy10:y162.length=((ji3):Int).toNat:=(by rw[Ny162.out,List.length_take];omega);rw[←Ny162.out]at hr10;rw[←hy10]at hcut10;have HO166:=Aside0.mk (show Kd.V (Kd.int .u32) 60 _ w.heap.size _ (.slice (some ad161) y162.length co9) y162 from Kd.V_mk (by omega) hr10);have HC166:=Aside0.mk (show y162.length≤co9 from by omega);clear hr10 hC10 hroom10 hi010 hsz10;have KY10:=Aside0.mk hy10;clear hy10;replace q10:=eq_true q10;go_wp2
     go_roundg k1
     case measure=>have:=HK1.out;omega
     case rel=>exact⟨(y162),H',⟨by have:=HK1.out;omega⟩,⟨vX (h:=HO166.out)⟩,⟨bQ⟩⟩
    ·rw[if_neg c6]at H;have c6b0:=beq_eq_false_iff_ne.mpr c6;have c6b1:=bne_iff_ne.mpr c6;obtain rfl:=Option.some.inj H;obtain⟨Ao11,co11,eo11⟩:=Kd.V_slice HO_0.out;subst eo11;have p161:0≤((ji3):Int):=dQ;have q161:(ji3)< (x0_1.length:Int):=dQ;obtain⟨ad161,e161,hx161_0⟩:=Kd.at_int (Kd.V_reads' HO_0.out).2.2 (ji3) p161 q161;cases e161;replace p161:=eq_true p161;replace q161:=eq_true q161;go_wp2
     go_ret;exact⟨_,by first|rfl| (simp[errW_none,errW_some] <;>rfl) | (simp only[←hji3];first|rfl| (simp[errW_none,errW_some] <;>rfl)) | (simp[*,errW_none,errW_some] <;>rfl),vX (h:=HO_0.out),bQ⟩
   ·rw[if_neg c2]at H;have c2b0:=decide_eq_false c2;have c2b1:decide (0< x0_1.length)=false:=decide_eq_false (by omega);clear c2;obtain rfl:=Option.some.inj H;obtain⟨Ao12,co12,eo12⟩:=Kd.V_slice HO_0.out;subst eo12;go_wp2
    go_ret;exact⟨_,eQ,vX (h:=HO_0.out),bQ⟩
def nat_Of.f(k:Nat)(a0:Int):Option (List Int):=(nat_trim.f k (([(a0) % 4294967296,(a0 / 4294967296) % 4294967296] :List Int))).bind fun t170=>(some t170)
theorem nat_Of.calls(k:Nat)(a0:Int)(r:List Int)(w:World)(h:nat_Of.f k a0=some r):
  Calls Tryz.prog 111 #[.int .u64 a0] w fun e w'=> ∃v0_:Value,e= .returned (v0_)∧Kd.V (Kd.int .u32) 60 w' w.heap.size (fun k_=>(w.heap.size≤k_)) v0_ r∧Below w.heap.size w w':=by
 have HB:=Aside0.mk (Below.refl w.heap.size w);have H:=h;clear h;unfold nat_Of.f at H;obtain⟨y167,hy167⟩: ∃y_:List Int,y_=(([(a0) % 4294967296,(a0 / 4294967296) % 4294967296] :List Int)):=⟨_,rfl⟩;(first|replace H:=by_ hy167 H|rw[←hy167]at H);(try dsimp only at H);have Ny167:=Aside0.mk hy167;clear hy167;obtain⟨t170,A2,H⟩:=bO H;(try dsimp only at H);obtain rfl:=Option.some.inj H;go_enter Tryz.func111,Tryz.ntmps111
 go_wp2_with (first| (refine gD 8 ?_;refine li_ (Kd.int .u32) 60 8 ([(a0) % 4294967296,(a0 / 4294967296) % 4294967296] :List Int) [.int .u32 ((a0) % 4294967296),.int .u32 ((a0 / 4294967296) % 4294967296)] (Reps.one (show Kd.M (Kd.int .u32) _ _ _ ((a0) % 4294967296) [.int .u32 ((a0) % 4294967296)]from rfl) (Reps.one (show Kd.M (Kd.int .u32) _ _ _ ((a0 / 4294967296) % 4294967296) [.int .u32 ((a0 / 4294967296) % 4294967296)]from rfl) (Reps.none _ _))) ?_;intro v168 w3 ho4 hb hg_ hnew_;clear hg_ hnew_;(first|rw[←Ny167.out]at ho4| (simp only[Int.reduceToNat]at ho4;rw[←Ny167.out]at ho4));have HO169:=Aside0.mk (Kd.R_lower (Kd.R_newM (M:=fun k_=>(w.heap.size≤k_)) ho4 (below_size bQ) (fun k_ h_=>h_)) (below_size bQ));replace HB:=hsQ hb;clear hb ho4;obtain⟨Ao5,co5,eo5⟩:=Kd.R_slice HO169.out;subst eo5) | (refine gF 123 ?_;refine gl_ (some 9) Tryz.func123 #[.slice Ao5 y167.length co5] ?_;(with_reducible refine(nat_trim.calls k (fun k_=>some k_=(.slice Ao5 y167.length co5:Value).ownBlock) _ _ y167 t170 _ (Kd.R_V (Kd.R_tight rfl (HO169.out))) A2.out).mono ?_);rintro e w6 ⟨v171,rfl,ho0,hb⟩;refine⟨_,rfl,?_⟩;have HO172:=Aside0.mk (Kd.V_lower (Kd.V_mono (ok':=fun k_=>(w.heap.size≤k_)) ho0 (fun k_ hk_=>Or.elim hk_ (fun hs_=>((HO169.out).1 k_ hs_.symm).1) (fun hn_=>(Nat.le_trans (below_size bQ) hn_)))) (below_size bQ));replace HO169:=rB HO169 hb;replace HB:=hsQ hb;(try clear hb);(try clear ho0)))
 go_ret;exact⟨_,eQ,vX (h:=HO172.out),bQ⟩
def frac_size.f(k:Nat)(a0:Int):Option (Bool×List Int):=if a0< 0 then((nat_Of.f k (IntKind.u64.wrap (-(IntKind.u64.wrap (a0))))).bind fun t173=>(some (true,t173)))else((nat_Of.f k (IntKind.u64.wrap (a0))).bind fun t176=>(some (false,t176)))
theorem frac_size.calls(k:Nat)(a0:Int)(r1:Bool)(r2:List Int)(w:World)(h:frac_size.f k a0=some (r1,r2)):
  Calls Tryz.prog 90 #[.int .i64 a0] w fun e w'=> ∃v1_:Value,e= .returned (.tuple #[.bool r1,v1_])∧Kd.V (Kd.int .u32) 60 w' w.heap.size (fun k_=>(w.heap.size≤k_)) v1_ r2∧Below w.heap.size w w':=by
 have HB:=Aside0.mk (Below.refl w.heap.size w);have H:=h;clear h;unfold frac_size.f at H;by_cases c2:a0< 0
 ·rw[if_pos c2]at H;have c2b0:=decide_eq_true c2;clear c2;obtain⟨t173,A3,H⟩:=bO H;(try dsimp only at H);simp only[Option.some.injEq,Prod.mk.injEq]at H;obtain⟨rfl,rfl⟩:=H;go_enter Tryz.func90,Tryz.ntmps90
  go_wp2_with (first| (refine gF 111 ?_;refine gl_ (some 9) Tryz.func111 #[.int .u64 (IntKind.u64.wrap (-(IntKind.u64.wrap (a0))))] ?_;(with_reducible refine(nat_Of.calls k (IntKind.u64.wrap (-(IntKind.u64.wrap (a0)))) t173 _ A3.out).mono ?_);rintro e w4 ⟨v174,rfl,ho0,hb⟩;refine⟨_,rfl,?_⟩;have HO175:=Aside0.mk (Kd.V_lower (Kd.V_mono (ok':=fun k_=>(w.heap.size≤k_)) ho0 (fun k_ hk_=>(Nat.le_trans (below_size bQ) hk_))) (below_size bQ));replace HB:=hsQ hb;(try clear hb);(try clear ho0)))
  go_ret2;exact⟨_,eQ,vX (h:=HO175.out),bQ⟩
 ·rw[if_neg c2]at H;have c2b0:=decide_eq_false c2;clear c2;obtain⟨t176,A5,H⟩:=bO H;(try dsimp only at H);simp only[Option.some.injEq,Prod.mk.injEq]at H;obtain⟨rfl,rfl⟩:=H;go_enter Tryz.func90,Tryz.ntmps90
  go_wp2_with (first| (refine gF 111 ?_;refine gl_ (some 12) Tryz.func111 #[.int .u64 (IntKind.u64.wrap (a0))] ?_;(with_reducible refine(nat_Of.calls k (IntKind.u64.wrap (a0)) t176 _ A5.out).mono ?_);rintro e w6 ⟨v177,rfl,ho0,hb⟩;refine⟨_,rfl,?_⟩;have HO178:=Aside0.mk (Kd.V_lower (Kd.V_mono (ok':=fun k_=>(w.heap.size≤k_)) ho0 (fun k_ hk_=>(Nat.le_trans (below_size bQ) hk_))) (below_size bQ));replace HB:=hsQ hb;(try clear hb);(try clear ho0)))
  go_ret2;exact⟨_,eQ,vX (h:=HO178.out),bQ⟩
def nat_form.l0:Nat→List (List Int)→Int→Int→Option (Int)
 |0,_,_,_=>none
 |k+1,x5,x6,x7=>if x7< x6 then(if 0≤x7 then(if x7< (x5.length:Int)then(if((rd_L3 x5 x7).length:Int) >512 then(some 3)else(if((rd_L3 x5 x7).length:Int) >0 then(if 0≤(wrap64 (((rd_L3 x5 x7).length:Int) - 1))then(if(wrap64 (((rd_L3 x5 x7).length:Int) - 1))< ((rd_L3 x5 x7).length:Int)then(if(rd (rd_L3 x5 x7) (wrap64 (((rd_L3 x5 x7).length:Int) - 1)))=0 then(some 5)else(nat_form.l0 k x5 x6 (wrap64 (x7+1))))else(none))else(none))else(nat_form.l0 k x5 x6 (wrap64 (x7+1)))))else(none))else(none))else(some 0)
def nat_form.f(k:Nat)(l0:List (List Int)):Option (Int):=nat_form.l0 k l0 (l0.length:Int) 0
theorem nat_form.calls(k:Nat)(A0:Option Addr)(c0:Nat)(l0:List (List Int))(r:Int)(w:World)(hr0:Kd.C (Kd.slice 60 (Kd.int .u32)) w A0 l0.length l0)(hc0:l0.length≤c0)(h:nat_form.f k l0=some r):
  Calls Tryz.prog 87 #[.slice A0 l0.length c0] w fun e w'=>e= .returned (.int .i64 r)∧Drawn0 w w':=by
 have HR0:=Aside0.mk hr0;have HC0:=Aside0.mk hc0;clear hr0 hc0;have H:=h;clear h;unfold nat_form.f at H;have H':=Aside0.mk H;clear H;go_enter Tryz.func87,Tryz.ntmps87
 go_wp2
 go_loopg [7] k (fun kq v7 w'=> ∃ (x7_1:Int),v7= .int .i64 x7_1∧Aside0 (nat_form.l0 kq l0 (l0.length:Int) x7_1=some r)∧Aside0 (kq≤k)∧Drawn0 w w')
 case atStart=>exact⟨(0),eS,H',⟨Nat.le_refl _⟩,by repeat(first|exact Drawn0.refl _|apply Drawn0.step)⟩
 case round=>
  clear H';obtain⟨x7_1,rfl,HA,HK1,⟨m1,rfl⟩⟩:=hrel;cases gk with
  |zero=>exact absurd HA.out (by simp[nat_form.l0])
  |succ k1=>
   have H:=HA.out;clear HA;simp only[nat_form.l0]at H;by_cases c2:x7_1< (l0.length:Int)
   ·rw[if_pos c2]at H;have c2b0:=decide_eq_true c2;clear c2;replace H:=iN H;obtain⟨c3,H⟩:=H;have c3b0:=decide_eq_true c3;clear c3;replace H:=iN H;obtain⟨c4,H⟩:=H;have c4b0:=decide_eq_true c4;clear c4;by_cases c5:((rd_L3 l0 x7_1).length:Int) >512
    ·rw[if_pos c5]at H;have c5b0:=decide_eq_true c5;have c5b1:decide (512< (rd_L3 l0 x7_1).length)=true:=decide_eq_true (by omega);clear c5;obtain rfl:=Option.some.inj H;have p179:0≤(x7_1:Int):=dQ;have q179:x7_1< (l0.length:Int):=dQ;obtain⟨ad179,A179_0,c179_0,e179,hx179_0,hl179_0,hi179_0⟩:=at_L3 HR0.out x7_1 p179 q179;cases e179;have HR179_0:=Aside0.mk hi179_0;have HC179_0:=Aside0.mk hl179_0;clear hi179_0 hl179_0;replace p179:=eq_true p179;replace q179:=eq_true q179;go_wp2
     go_ret;exact⟨by first|rfl| (simp;done) | (simp[*];done),by repeat(first|exact Drawn0.refl _|apply Drawn0.step)⟩
    ·rw[if_neg c5]at H;have c5b0:=decide_eq_false c5;have c5b1:decide (512< (rd_L3 l0 x7_1).length)=false:=decide_eq_false (by omega);clear c5;by_cases c6:((rd_L3 l0 x7_1).length:Int) >0
     ·rw[if_pos c6]at H;have c6b0:=decide_eq_true c6;have c6b1:decide (0< (rd_L3 l0 x7_1).length)=true:=decide_eq_true (by omega);clear c6;obtain⟨ji7,hji7⟩: ∃j_:Int,(wrap64 (((rd_L3 l0 x7_1).length:Int) - 1))=j_:=⟨_,rfl⟩;(first|rw[hji7]at H|simp only[hji7]at H);have hji7w:(IntKind.i64.wrap (((rd_L3 l0 x7_1).length:Int) - 1))=ji7:=(i64_w _).trans hji7;replace H:=iN H;obtain⟨c8,H⟩:=H;have c8b0:=decide_eq_true c8;clear c8;replace H:=iN H;obtain⟨c9,H⟩:=H;have c9b0:=decide_eq_true c9;clear c9;by_cases c10:(rd (rd_L3 l0 x7_1) (ji7))=0
      ·rw[if_pos c10]at H;have c10b0:=beq_iff_eq.mpr c10;have c10b1:=bne_eq_false_iff_eq.mpr c10;clear c10;obtain rfl:=Option.some.inj H;have p179:0≤(x7_1:Int):=dQ;have q179:x7_1< (l0.length:Int):=dQ;obtain⟨ad179,A179_0,c179_0,e179,hx179_0,hl179_0,hi179_0⟩:=at_L3 HR0.out x7_1 p179 q179;cases e179;have HR179_0:=Aside0.mk hi179_0;have HC179_0:=Aside0.mk hl179_0;clear hi179_0 hl179_0;replace p179:=eq_true p179;replace q179:=eq_true q179;have p180:0≤((ji7):Int):=dQ;have q180:(ji7)< ((rd_L3 l0 x7_1).length:Int):=dQ;obtain⟨ad180,e180,hx180_0⟩:=Kd.at_int HR179_0.out (ji7) p180 q180;cases e180;replace p180:=eq_true p180;replace q180:=eq_true q180;go_wp2
       go_ret;exact⟨by first|rfl| (simp;done) | (simp only[←hji7] <;>(first|rfl|simp)) | (simp[*];done),by repeat(first|exact Drawn0.refl _|apply Drawn0.step)⟩
      ·rw[if_neg c10]at H;have c10b0:=beq_eq_false_iff_ne.mpr c10;have c10b1:=bne_iff_ne.mpr c10;have H':=Aside0.mk H;clear H;have p179:0≤(x7_1:Int):=dQ;have q179:x7_1< (l0.length:Int):=dQ;obtain⟨ad179,A179_0,c179_0,e179,hx179_0,hl179_0,hi179_0⟩:=at_L3 HR0.out x7_1 p179 q179;cases e179;have HR179_0:=Aside0.mk hi179_0;have HC179_0:=Aside0.mk hl179_0;clear hi179_0 hl179_0;replace p179:=eq_true p179;replace q179:=eq_true q179;have p180:0≤((ji7):Int):=dQ;have q180:(ji7)< ((rd_L3 l0 x7_1).length:Int):=dQ;obtain⟨ad180,e180,hx180_0⟩:=Kd.at_int HR179_0.out (ji7) p180 q180;cases e180;replace p180:=eq_true p180;replace q180:=eq_true q180;go_wp2
       go_roundg k1
       case measure=>have:=HK1.out;omega
       case rel=>exact⟨(wrap64 (x7_1+1)),eS,H',⟨by have:=HK1.out;omega⟩,by repeat(first|exact Drawn0.refl _|apply Drawn0.step)⟩
     ·rw[if_neg c6]at H;have c6b0:=decide_eq_false c6;have c6b1:decide (0< (rd_L3 l0 x7_1).length)=false:=decide_eq_false (by omega);clear c6;have H':=Aside0.mk H;clear H;have p179:0≤(x7_1:Int):=dQ;have q179:x7_1< (l0.length:Int):=dQ;obtain⟨ad179,A179_0,c179_0,e179,hx179_0,hl179_0,hi179_0⟩:=at_L3 HR0.out x7_1 p179 q179;cases e179;have HR179_0:=Aside0.mk hi179_0;have HC179_0:=Aside0.mk hl179_0;clear hi179_0 hl179_0;replace p179:=eq_true p179;replace q179:=eq_true q179;go_wp2
      go_roundg k1
      case measure=>have:=HK1.out;omega
      case rel=>exact⟨(wrap64 (x7_1+1)),eS,H',⟨by have:=HK1.out;omega⟩,by repeat(first|exact Drawn0.refl _|apply Drawn0.step)⟩
   ·rw[if_neg c2]at H;have c2b0:=decide_eq_false c2;clear c2;obtain rfl:=Option.some.inj H;go_wp2
    go_ret;exact⟨by first|rfl| (simp;done) | (simp[*];done),by repeat(first|exact Drawn0.refl _|apply Drawn0.step)⟩
def bits_Len32.ren:Go.Shelf.Ren:=⟨fun|128=>120|n=>n,fun|51=>60|3=>3|4=>4|46=>64|5=>5|9=>9|n=>n,fun|n=>n⟩
theorem bits_Len32.lays:Go.Proofs.Lays.n128 Tryz.prog bits_Len32.ren:= {
 mixed:=by kernel_rfl
 f128:=Tryz.func120.trans (congrArg some (by kernel_rfl))
 t3:=Tryz.underlying3
 a3:=Tryz.isAgg3
 z3:=Tryz.sizeOf3
 v3:=Tryz.zeroValue3
 t4:=Tryz.underlying4
 a4:=Tryz.isAgg4
 z4:=Tryz.sizeOf4
 v4:=Tryz.zeroValue4
 t5:=Tryz.underlying5
 a5:=Tryz.isAgg5
 z5:=Tryz.sizeOf5
 v5:=Tryz.zeroValue5
 t9:=Tryz.underlying9
 a9:=Tryz.isAgg9
 z9:=Tryz.sizeOf9
 v9:=Tryz.zeroValue9
 t46:=Tryz.underlying64
 a46:=Tryz.isAgg64
 z46:=Tryz.sizeOf64
 v46:=Tryz.zeroValue64
 t51:=Tryz.underlying60
 a51:=Tryz.isAgg60
 z51:=Tryz.sizeOf60
 v51:=Tryz.zeroValue60}
def bits_Len32.f(a0:Int):Option Int:=if 0≤a0 then(if a0≤4294967295 then some (Lib.bitLen a0.toNat:Int)else none)else none
theorem bits_Len32.calls(a0:Int)(r:Int)(w:World)(h:bits_Len32.f a0=some r):
  Calls Tryz.prog 120 #[.int .u32 a0] w fun e w'=>e= .returned (.int .i64 r)∧Drawn0 w w':=by
 unfold bits_Len32.f at h;by_cases h0:0≤a0
 ·by_cases h1:a0≤4294967295
  ·rw[if_pos h0,if_pos h1]at h;cases h;exact(Any.bits_Len32 bits_Len32.lays a0 w h0 h1).mono fun e w' ⟨he,hw⟩=>⟨he,hw▸Drawn0.refl w⟩
  ·rw[if_pos h0,if_neg h1]at h;cases h
 ·rw[if_neg h0]at h;cases h
def nat_size.f(l0:List Int):Option (Int):=if(l0.length:Int)=0 then(some 0)else(if 0≤(wrap64 ((l0.length:Int) - 1))then(if(wrap64 ((l0.length:Int) - 1))< (l0.length:Int)then((bits_Len32.f (rd l0 (wrap64 ((l0.length:Int) - 1)))).bind fun t182=>(some (wrap64 ((wrap64 (32 * (wrap64 ((l0.length:Int) - 1)))) +t182))))else(none))else(none))
theorem nat_size.calls(A0:Option Addr)(c0:Nat)(l0:List Int)(r:Int)(w:World)(hr0:Kd.C (Kd.int .u32) w A0 l0.length l0)(hc0:l0.length≤c0)(h:nat_size.f l0=some r):
  Calls Tryz.prog 109 #[.slice A0 l0.length c0] w fun e w'=>e= .returned (.int .i64 r)∧Drawn0 w w':=by
 have HR0:=Aside0.mk hr0;have HC0:=Aside0.mk hc0;clear hr0 hc0;have H:=h;clear h;unfold nat_size.f at H;by_cases c2:(l0.length:Int)=0
 ·rw[if_pos c2]at H;have c2b0:=beq_iff_eq.mpr c2;have c2b1:=bne_eq_false_iff_eq.mpr c2;clear c2;obtain rfl:=Option.some.inj H;go_enter Tryz.func109,Tryz.ntmps109
  go_wp2
  go_ret;exact⟨by first|rfl| (simp;done) | (simp[*];done),by repeat(first|exact Drawn0.refl _|apply Drawn0.step)⟩
 ·rw[if_neg c2]at H;have c2b0:=beq_eq_false_iff_ne.mpr c2;have c2b1:=bne_iff_ne.mpr c2;have c2b2: ¬ (l0= []):=fun h_=>c2 (by rw[h_];rfl)
  obtain⟨ji3,hji3⟩: ∃j_:Int,(wrap64 ((l0.length:Int) - 1))=j_:=⟨_,rfl⟩;(first|rw[hji3]at H|simp only[hji3]at H);have hji3w:(IntKind.i64.wrap ((l0.length:Int) - 1))=ji3:=(i64_w _).trans hji3;replace H:=iN H;obtain⟨c4,H⟩:=H;have c4b0:=decide_eq_true c4;clear c4;replace H:=iN H;obtain⟨c5,H⟩:=H;have c5b0:=decide_eq_true c5;clear c5;obtain⟨t182,A6,H⟩:=bO H;(try dsimp only at H);obtain rfl:=Option.some.inj H;have p181:0≤((ji3):Int):=dQ;have q181:(ji3)< (l0.length:Int):=dQ;obtain⟨ad181,e181,hx181_0⟩:=Kd.at_int HR0.out (ji3) p181 q181;cases e181;replace p181:=eq_true p181;replace q181:=eq_true q181;go_enter Tryz.func109,Tryz.ntmps109
  go_wp2_with (first| (refine gF 120 ?_;refine goesL_ (some 16) rfl rfl Tryz.func120 (by kernel_rfl) rfl #[.int .u32 (rd l0 (ji3))] rfl (by(try simp only[List.map_toArray,List.map_cons,List.map_nil]);first|done| (simp only[hji3];rfl) |rfl| (simp only[List.length_drop,List.length_take];rfl)) ?_;(with_reducible refine(bits_Len32.calls (rd l0 (ji3)) t182 _ A6.out).mono ?_);rintro e w' ⟨rfl,⟨nd,rfl⟩⟩;refine⟨_,rfl,?_⟩))
  go_ret;exact⟨by first|rfl| (simp;done) | (simp only[←hji3] <;>(first|rfl|simp)) | (simp[*];done),by repeat(first|exact Drawn0.refl _|apply Drawn0.step)⟩
def nat_Bits.f(k:Nat)(l0:List Int):Option (Int×Int):=(nat_form.f k (([l0] :List (List Int)))).bind fun t186=>(if t186=0 then((nat_size.f l0).bind fun t187=>(some (t187,0)))else(some (0,t186)))
theorem nat_Bits.calls(k:Nat)(P0_:Nat→Prop)(A0:Option Addr)(c0:Nat)(l0:List Int)(r1:Int)(r2:Int)(w:World)(hs0:Kd.V (Kd.int .u32) 60 w w.heap.size (fun k_=>P0_ k_) (.slice A0 l0.length c0) l0)(h:nat_Bits.f k l0=some (r1,r2)):
  Calls Tryz.prog 88 #[.slice A0 l0.length c0] w fun e w'=>e= .returned (.tuple #[.int .i64 r1,.int .i64 r2])∧Below w.heap.size w w':=by
 have HO0:=Aside0.mk (show Kd.V (Kd.int .u32) 60 w w.heap.size (fun k_=>(P0_ k_∨w.heap.size≤k_)) (.slice A0 l0.length c0) l0 from Kd.V_mono hs0 (fun k_ hk=> .inl hk));have HB:=Aside0.mk (Below.refl w.heap.size w);have H:=h;clear h;unfold nat_Bits.f at H;obtain⟨y183,hy183⟩: ∃y_:List (List Int),y_=(([l0] :List (List Int))):=⟨_,rfl⟩;(first|replace H:=by_ hy183 H|rw[←hy183]at H);(try dsimp only at H);have Ny183:=Aside0.mk hy183;clear hy183;obtain⟨t186,A2,H⟩:=bO H;(try dsimp only at H);by_cases c3:t186=0
 ·rw[if_pos c3]at H;have c3b0:=beq_iff_eq.mpr c3;have c3b1:=bne_eq_false_iff_eq.mpr c3;clear c3;obtain⟨t187,A4,H⟩:=bO H;(try dsimp only at H);simp only[Option.some.injEq,Prod.mk.injEq]at H;obtain⟨rfl,rfl⟩:=H;go_enter Tryz.func88,Tryz.ntmps88
  go_wp2_with (first| (refine gD 6 ?_;refine Kd.N_lit (Kd.slice 60 (Kd.int .u32)) _ 57 ?hg (N':=6) ?hd (xs:=([l0] :List (List Int))) (inner:= [.slice A0 l0.length c0]) (ok:=(fun k_=>(P0_ k_∨w.heap.size≤k_))) (okp:=(fun k_=>(P0_ k_∨w.heap.size≤k_))) ?hr ?hp (fun _ hk=>hk) ((show∀k_,w.heap.size≤k_→(fun k_=>(P0_ k_∨w.heap.size≤k_)) k_ from fun k_ hk=>(.inr (Nat.le_trans (below_size bQ) hk))) _ (Nat.le_refl _)) (Below.refl _ _) (Nat.le_refl _) (by simp) ?_;(case hd=>rfl);(case hg=>rfl);(case hr=>first| (go_simp;done) | (go_simp;rfl));(case hp=>exact(Reps.one (show Kd.FK (Kd.slice 60 (Kd.int .u32)) _ _ l0 [.slice A0 l0.length c0]from(Kd.FK_slice_mk (Kd.V_reads' (Kd.V_mono (ok':=(fun k_=>(P0_ k_∨w.heap.size≤k_))) (HO0.out) (fun k_ hk=>hk))).2.1 (Kd.V_F (Kd.V_mono (ok':=(fun k_=>(P0_ k_∨w.heap.size≤k_))) (HO0.out) (fun k_ hk=>hk))))) (Reps.none _ _)));intro v184 w5 ho6 hb hg_ hnew_;clear hg_ hnew_;(first|rw[←Ny183.out]at ho6| (simp only[Int.reduceToNat]at ho6;rw[←Ny183.out]at ho6));have HO185:=Aside0.mk (Kd.N_lower ho6 (below_size bQ));replace HO0:=Aside0.mk (Kd.V_elder' (pVQ HO0.out) (Kd.N_base ho6) hb);replace HB:=hsQ hb;clear hb ho6;obtain⟨Ao7,co7,eo7⟩:=Kd.N_slice HO185.out;subst eo7) | (refine gF 87 ?_;refine gl_ (some 7) Tryz.func87 #[.slice Ao7 y183.length co7] ?_;(with_reducible refine(nat_form.calls k _ _ y183 t186 _ (cQ ((Kd.N_reads' HO185.out).2.2)) ((Kd.N_reads' HO185.out).2.1) A2.out).mono ?_);rintro e w' ⟨rfl,⟨nd,rfl⟩⟩;refine⟨_,rfl,?_⟩) | (refine gF 109 ?_;refine gl_ (some 12) Tryz.func109 #[.slice A0 l0.length c0] ?_;(with_reducible refine(nat_size.calls _ _ l0 t187 _ (cQ ((Kd.V_reads' HO0.out).2.2)) ((Kd.V_reads' HO0.out).2.1) A4.out).mono ?_);rintro e w' ⟨rfl,⟨nd,rfl⟩⟩;refine⟨_,rfl,?_⟩))
  go_ret2;exact⟨eQ,bQ⟩
 ·rw[if_neg c3]at H;have c3b0:=beq_eq_false_iff_ne.mpr c3;have c3b1:=bne_iff_ne.mpr c3;simp only[Option.some.injEq,Prod.mk.injEq]at H;obtain⟨rfl,rfl⟩:=H;go_enter Tryz.func88,Tryz.ntmps88
  go_wp2_with (first| (refine gD 6 ?_;refine Kd.N_lit (Kd.slice 60 (Kd.int .u32)) _ 57 ?hg (N':=6) ?hd (xs:=([l0] :List (List Int))) (inner:= [.slice A0 l0.length c0]) (ok:=(fun k_=>(P0_ k_∨w.heap.size≤k_))) (okp:=(fun k_=>(P0_ k_∨w.heap.size≤k_))) ?hr ?hp (fun _ hk=>hk) ((show∀k_,w.heap.size≤k_→(fun k_=>(P0_ k_∨w.heap.size≤k_)) k_ from fun k_ hk=>(.inr (Nat.le_trans (below_size bQ) hk))) _ (Nat.le_refl _)) (Below.refl _ _) (Nat.le_refl _) (by simp) ?_;(case hd=>rfl);(case hg=>rfl);(case hr=>first| (go_simp;done) | (go_simp;rfl));(case hp=>exact(Reps.one (show Kd.FK (Kd.slice 60 (Kd.int .u32)) _ _ l0 [.slice A0 l0.length c0]from(Kd.FK_slice_mk (Kd.V_reads' (Kd.V_mono (ok':=(fun k_=>(P0_ k_∨w.heap.size≤k_))) (HO0.out) (fun k_ hk=>hk))).2.1 (Kd.V_F (Kd.V_mono (ok':=(fun k_=>(P0_ k_∨w.heap.size≤k_))) (HO0.out) (fun k_ hk=>hk))))) (Reps.none _ _)));intro v184 w8 ho9 hb hg_ hnew_;clear hg_ hnew_;(first|rw[←Ny183.out]at ho9| (simp only[Int.reduceToNat]at ho9;rw[←Ny183.out]at ho9));have HO185:=Aside0.mk (Kd.N_lower ho9 (below_size bQ));replace HO0:=Aside0.mk (Kd.V_elder' (pVQ HO0.out) (Kd.N_base ho9) hb);replace HB:=hsQ hb;clear hb ho9;obtain⟨Ao10,co10,eo10⟩:=Kd.N_slice HO185.out;subst eo10) | (refine gF 87 ?_;refine gl_ (some 7) Tryz.func87 #[.slice Ao10 y183.length co10] ?_;(with_reducible refine(nat_form.calls k _ _ y183 t186 _ (cQ ((Kd.N_reads' HO185.out).2.2)) ((Kd.N_reads' HO185.out).2.1) A2.out).mono ?_);rintro e w' ⟨rfl,⟨nd,rfl⟩⟩;refine⟨_,rfl,?_⟩))
  go_ret2;exact⟨eQ,bQ⟩
def frac_long.f(k:Nat)(l0:List Int):Option (Bool):=(nat_Bits.f k l0).bind fun bt188=>(if bt188.2=0 then(some (decide (bt188.1 >4096)))else(some true))
theorem frac_long.calls(k:Nat)(A0:Option Addr)(c0:Nat)(l0:List Int)(r:Bool)(w:World)(hr0:Kd.C (Kd.int .u32) w A0 l0.length l0)(hc0:l0.length≤c0)(h:frac_long.f k l0=some r):
  Calls Tryz.prog 68 #[.slice A0 l0.length c0] w fun e w'=>e= .returned (.bool r)∧Below w.heap.size w w':=by
 have HR0:=Aside0.mk hr0;have HC0:=Aside0.mk hc0;clear hr0 hc0;have HB:=Aside0.mk (Below.refl w.heap.size w);have H:=h;clear h;unfold frac_long.f at H;obtain⟨⟨t188,t189⟩,A2,H⟩:=bO H;(try dsimp only at H);by_cases c3:t189=0
 ·rw[if_pos c3]at H;have c3b0:=beq_iff_eq.mpr c3;have c3b1:=bne_eq_false_iff_eq.mpr c3;clear c3;obtain rfl:=Option.some.inj H;go_enter Tryz.func68,Tryz.ntmps68
  go_wp2_with (first| (refine gF 88 ?_;refine gl_ (some 7) Tryz.func88 #[.slice A0 l0.length c0] ?_;(with_reducible refine(nat_Bits.calls k (fun k_=>k_< w.heap.size) _ _ l0 t188 t189 _ (Kd.V_mk HC0.out (Kd.F_below (Kd.C_F (Kd.heap_int .u32) HR0.out) bQ)) A2.out).mono ?_);rintro e w4 ⟨rfl,hb⟩;refine⟨_,rfl,?_⟩;replace HB:=Aside0.mk (below_step bQ hb);(try clear hb)))
  go_ret;exact⟨eQ,bQ⟩
 ·rw[if_neg c3]at H;have c3b0:=beq_eq_false_iff_ne.mpr c3;have c3b1:=bne_iff_ne.mpr c3;obtain rfl:=Option.some.inj H;go_enter Tryz.func68,Tryz.ntmps68
  go_wp2_with (first| (refine gF 88 ?_;refine gl_ (some 7) Tryz.func88 #[.slice A0 l0.length c0] ?_;(with_reducible refine(nat_Bits.calls k (fun k_=>k_< w.heap.size) _ _ l0 t188 t189 _ (Kd.V_mk HC0.out (Kd.F_below (Kd.C_F (Kd.heap_int .u32) HR0.out) bQ)) A2.out).mono ?_);rintro e w5 ⟨rfl,hb⟩;refine⟨_,rfl,?_⟩;replace HB:=Aside0.mk (below_step bQ hb);(try clear hb)))
  go_ret;exact⟨eQ,bQ⟩
def slices_Clone_uint32_uint32.f(l0:List Int):Option (List Int):=if l0.length< 35184372088832 then some l0 else none
theorem slices_Clone_uint32_uint32.calls(A0:Option Addr)(c0:Nat)(l0:List Int)(r:List Int)(w:World)(hr0:Kd.C (Kd.int .u32) w A0 l0.length l0)(hc0:l0.length≤c0)(h:slices_Clone_uint32_uint32.f l0=some r):
  Calls Tryz.prog 44 #[.slice A0 l0.length c0] w fun e w'=> ∃v0_:Value,e= .returned (v0_)∧Kd.R (Kd.int .u32) 60 w' w.heap.size (fun _=>True) v0_ r∧Below w.heap.size w w':=by
 have HR0:=Aside0.mk hr0;clear hc0;unfold slices_Clone_uint32_uint32.f at h;by_cases c1:l0.length< 35184372088832
 ·rw[if_pos c1]at h;cases h;have LM:=Aside0.mk c1;clear c1;have HB:=Aside0.mk (Below.refl w.heap.size w);cases A0 with
  |none=>
   have h0:l0= [] :=by
    rcases l0 with _| ⟨x,l⟩
    ·rfl
    ·obtain⟨ad,e,_⟩:=hr0.2.2 (by simp);cases e
   subst h0;clear hr0;have hn:=Lib.run_eql_slice_nil (P:=Tryz.prog) (w:=w) (t:=57) (e:=60) (a:=none) (n:=0) (c:=c0) (n':=0) (c':=0) Tryz.underlying57;go_enter Tryz.func44,Tryz.ntmps44
   go_wp2_with fail
   go_ret;exact⟨_,rfl,Kd.R_nil _ _ _ _ _,Below.refl _ _⟩
  |some ad=>
   clear hr0;have hn:=Lib.run_eql_slice_nil (P:=Tryz.prog) (w:=w) (t:=57) (e:=60) (a:=some ad) (n:=l0.length) (c:=c0) (n':=0) (c':=0) Tryz.underlying57;go_enter Tryz.func44,Tryz.ntmps44
   go_wp2_with (first
    | (refine gD 5 ?_;refine li_ (Kd.int .u32) 60 5 ([] :List Int) [] (Reps.none _ _) ?_;intro v1 w1 ho hb _ _;have HO:=Aside0.mk ho;have HB:=Aside0.mk hb;clear ho hb)
    | ((with_reducible refine gate_builtin (b:= .append) (xs:= #[.tmp 5,.tmp 6]) rfl ?_);at_builtin;refine Kd.R_append_rows (Kd.int .u32) (w0:=w) w.heap.size rfl (.tmp 5) (.tmp 6) 57 60 (.int .u32 0) 4 rfl Tryz.underlying57 info60 rfl (by decide) (by omega) v1 ([] :List Int) l0 _ _ _ (fun _=>True) (fun _=>False) rfl rfl ?aO ?aR (fun _ _ h=>h) (fun _ h=>h.elim) ?aF ?aB ?aS ?aL ?_;(case aR=>exact Kd.C_below HR0.out HB.out);(case aB=>exact HB.out);(case aF=>exact(fun _ _=>trivial));(case aO=>exact HO.out);(case aS=>exact HB.out.size);(case aL=>have:=LM.out;simp only[List.length_nil];omega);intro v2 w2 ho hb _ _;have HO2:=Aside0.mk ho;have HB2:=Aside0.mk hb;clear ho hb))
   go_ret;exact⟨_,rfl,HO2.out,HB2.out⟩
 ·rw[if_neg c1]at h;cases h
end Go.Proofs.YtjjbondlcjnaiaaGreat.PSparseSeeds
