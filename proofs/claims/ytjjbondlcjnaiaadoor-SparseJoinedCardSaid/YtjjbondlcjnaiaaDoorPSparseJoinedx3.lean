-- written by a program of this session, after the kit's print
import Derived.Test.YtjjbondlcjnaiaaDoorPSparseJoinedx0
namespace Go.Proofs.YtjjbondlcjnaiaaDoor.PSparseJoined
open Go.RowKit Go.Proofs.YtjjbondlcjnaiaaDoorW.PrintWords Go.Proofs.YtjjbondlcjnaiaaDoorW.PrintLast Go.Proofs.YtjjbondlcjnaiaaDoorW.PrintMore
set_option maxHeartbeats 8000000
set_option maxRecDepth 100000
attribute [local go_sem] max2_int min2_int max_two min_two max_three min_three max_four min_four
set_option linter.unusedVariables false
set_option linter.unusedSimpArgs false
def nat_form.l0:Nat→List (List Int)→Int→Int→Option (Int)
 |0,_,_,_=>none
 |k+1,x5,x6,x7=>if x7< x6 then(if 0≤x7 then(if x7< (x5.length:Int)then(if((rd_L3 x5 x7).length:Int) >512 then(some 3)else(if((rd_L3 x5 x7).length:Int) >0 then(if 0≤(wrap64 (((rd_L3 x5 x7).length:Int) - 1))then(if(wrap64 (((rd_L3 x5 x7).length:Int) - 1))< ((rd_L3 x5 x7).length:Int)then(if(rd (rd_L3 x5 x7) (wrap64 (((rd_L3 x5 x7).length:Int) - 1)))=0 then(some 5)else(nat_form.l0 k x5 x6 (wrap64 (x7+1))))else(none))else(none))else(nat_form.l0 k x5 x6 (wrap64 (x7+1)))))else(none))else(none))else(some 0)
def nat_form.f(k:Nat)(l0:List (List Int)):Option (Int):=nat_form.l0 k l0 (l0.length:Int) 0
theorem nat_form.calls(k:Nat)(A0:Option Addr)(c0:Nat)(l0:List (List Int))(r:Int)(w:World)(hr0:Kd.C (Kd.slice 97 (Kd.int .u32)) w A0 l0.length l0)(hc0:l0.length≤c0)(h:nat_form.f k l0=some r):
  Calls Tryd.prog 77 #[.slice A0 l0.length c0] w fun e w'=>e= .returned (.int .i64 r)∧Drawn0 w w':=by
 have HR0:=Aside0.mk hr0;have HC0:=Aside0.mk hc0;clear hr0 hc0;have H:=h;clear h;unfold nat_form.f at H;have H':=Aside0.mk H;clear H;go_enter Tryd.func77,Tryd.ntmps77
 go_wp2
 go_loopg [7] k (fun kq v7 w'=> ∃ (x7_1:Int),v7= .int .i64 x7_1∧Aside0 (nat_form.l0 kq l0 (l0.length:Int) x7_1=some r)∧Aside0 (kq≤k)∧Drawn0 w w')
 case atStart=>exact⟨(0),eS,H',⟨Nat.le_refl _⟩,by repeat(first|exact Drawn0.refl _|apply Drawn0.step)⟩
 case round=>
  clear H';obtain⟨x7_1,rfl,HA,HK1,⟨m1,rfl⟩⟩:=hrel;cases gk with
  |zero=>exact absurd HA.out (by simp[nat_form.l0])
  |succ k1=>
   have H:=HA.out;clear HA;simp only[nat_form.l0]at H;by_cases c2:x7_1< (l0.length:Int)
   ·rw[if_pos c2]at H;have c2b0:=decide_eq_true c2;clear c2;replace H:=iN H;obtain⟨c3,H⟩:=H;have c3b0:=decide_eq_true c3;clear c3;replace H:=iN H;obtain⟨c4,H⟩:=H;have c4b0:=decide_eq_true c4;clear c4;by_cases c5:((rd_L3 l0 x7_1).length:Int) >512
    ·rw[if_pos c5]at H;have c5b0:=decide_eq_true c5;have c5b1:decide (512< (rd_L3 l0 x7_1).length)=true:=decide_eq_true (by omega);clear c5;obtain rfl:=Option.some.inj H;have p143:0≤(x7_1:Int):=dQ;have q143:x7_1< (l0.length:Int):=dQ;obtain⟨ad143,A143_0,c143_0,e143,hx143_0,hl143_0,hi143_0⟩:=at_L3 HR0.out x7_1 p143 q143;cases e143;have HR143_0:=Aside0.mk hi143_0;have HC143_0:=Aside0.mk hl143_0;clear hi143_0 hl143_0;replace p143:=eq_true p143;replace q143:=eq_true q143;go_wp2
     go_ret;exact⟨by first|rfl| (simp;done) | (simp[*];done),by repeat(first|exact Drawn0.refl _|apply Drawn0.step)⟩
    ·rw[if_neg c5]at H;have c5b0:=decide_eq_false c5;have c5b1:decide (512< (rd_L3 l0 x7_1).length)=false:=decide_eq_false (by omega);clear c5;by_cases c6:((rd_L3 l0 x7_1).length:Int) >0
     ·rw[if_pos c6]at H;have c6b0:=decide_eq_true c6;have c6b1:decide (0< (rd_L3 l0 x7_1).length)=true:=decide_eq_true (by omega);clear c6;obtain⟨ji7,hji7⟩: ∃j_:Int,(wrap64 (((rd_L3 l0 x7_1).length:Int) - 1))=j_:=⟨_,rfl⟩;(first|rw[hji7]at H|simp only[hji7]at H);have hji7w:(IntKind.i64.wrap (((rd_L3 l0 x7_1).length:Int) - 1))=ji7:=(i64_w _).trans hji7;replace H:=iN H;obtain⟨c8,H⟩:=H;have c8b0:=decide_eq_true c8;clear c8;replace H:=iN H;obtain⟨c9,H⟩:=H;have c9b0:=decide_eq_true c9;clear c9;by_cases c10:(rd (rd_L3 l0 x7_1) (ji7))=0
      ·rw[if_pos c10]at H;have c10b0:=beq_iff_eq.mpr c10;have c10b1:=bne_eq_false_iff_eq.mpr c10;clear c10;obtain rfl:=Option.some.inj H;have p143:0≤(x7_1:Int):=dQ;have q143:x7_1< (l0.length:Int):=dQ;obtain⟨ad143,A143_0,c143_0,e143,hx143_0,hl143_0,hi143_0⟩:=at_L3 HR0.out x7_1 p143 q143;cases e143;have HR143_0:=Aside0.mk hi143_0;have HC143_0:=Aside0.mk hl143_0;clear hi143_0 hl143_0;replace p143:=eq_true p143;replace q143:=eq_true q143;have p144:0≤((ji7):Int):=dQ;have q144:(ji7)< ((rd_L3 l0 x7_1).length:Int):=dQ;obtain⟨ad144,e144,hx144_0⟩:=Kd.at_int HR143_0.out (ji7) p144 q144;cases e144;replace p144:=eq_true p144;replace q144:=eq_true q144;go_wp2
       go_ret;exact⟨by first|rfl| (simp;done) | (simp only[←hji7] <;>(first|rfl|simp)) | (simp[*];done),by repeat(first|exact Drawn0.refl _|apply Drawn0.step)⟩
      ·rw[if_neg c10]at H;have c10b0:=beq_eq_false_iff_ne.mpr c10;have c10b1:=bne_iff_ne.mpr c10;have H':=Aside0.mk H;clear H;have p143:0≤(x7_1:Int):=dQ;have q143:x7_1< (l0.length:Int):=dQ;obtain⟨ad143,A143_0,c143_0,e143,hx143_0,hl143_0,hi143_0⟩:=at_L3 HR0.out x7_1 p143 q143;cases e143;have HR143_0:=Aside0.mk hi143_0;have HC143_0:=Aside0.mk hl143_0;clear hi143_0 hl143_0;replace p143:=eq_true p143;replace q143:=eq_true q143;have p144:0≤((ji7):Int):=dQ;have q144:(ji7)< ((rd_L3 l0 x7_1).length:Int):=dQ;obtain⟨ad144,e144,hx144_0⟩:=Kd.at_int HR143_0.out (ji7) p144 q144;cases e144;replace p144:=eq_true p144;replace q144:=eq_true q144;go_wp2
       go_roundg k1
       case measure=>have:=HK1.out;omega
       case rel=>exact⟨(wrap64 (x7_1+1)),eS,H',⟨by have:=HK1.out;omega⟩,by repeat(first|exact Drawn0.refl _|apply Drawn0.step)⟩
     ·rw[if_neg c6]at H;have c6b0:=decide_eq_false c6;have c6b1:decide (0< (rd_L3 l0 x7_1).length)=false:=decide_eq_false (by omega);clear c6;have H':=Aside0.mk H;clear H;have p143:0≤(x7_1:Int):=dQ;have q143:x7_1< (l0.length:Int):=dQ;obtain⟨ad143,A143_0,c143_0,e143,hx143_0,hl143_0,hi143_0⟩:=at_L3 HR0.out x7_1 p143 q143;cases e143;have HR143_0:=Aside0.mk hi143_0;have HC143_0:=Aside0.mk hl143_0;clear hi143_0 hl143_0;replace p143:=eq_true p143;replace q143:=eq_true q143;go_wp2
      go_roundg k1
      case measure=>have:=HK1.out;omega
      case rel=>exact⟨(wrap64 (x7_1+1)),eS,H',⟨by have:=HK1.out;omega⟩,by repeat(first|exact Drawn0.refl _|apply Drawn0.step)⟩
   ·rw[if_neg c2]at H;have c2b0:=decide_eq_false c2;clear c2;obtain rfl:=Option.some.inj H;go_wp2
    go_ret;exact⟨by first|rfl| (simp;done) | (simp[*];done),by repeat(first|exact Drawn0.refl _|apply Drawn0.step)⟩
def nat_IsNat.f(k:Nat)(l0:List Int):Option (Bool):=(nat_form.f k (([l0] :List (List Int)))).bind fun t148=>(some (t148==0))
theorem nat_IsNat.calls(k:Nat)(P0_:Nat→Prop)(A0:Option Addr)(c0:Nat)(l0:List Int)(r:Bool)(w:World)(hs0:Kd.V (Kd.int .u32) 97 w w.heap.size (fun k_=>P0_ k_) (.slice A0 l0.length c0) l0)(h:nat_IsNat.f k l0=some r):
  Calls Tryd.prog 64 #[.slice A0 l0.length c0] w fun e w'=>e= .returned (.bool r)∧Below w.heap.size w w':=by
 have HO0:=Aside0.mk (show Kd.V (Kd.int .u32) 97 w w.heap.size (fun k_=>(P0_ k_∨w.heap.size≤k_)) (.slice A0 l0.length c0) l0 from Kd.V_mono hs0 (fun k_ hk=> .inl hk));have HB:=Aside0.mk (Below.refl w.heap.size w);have H:=h;clear h;unfold nat_IsNat.f at H;obtain⟨y145,hy145⟩: ∃y_:List (List Int),y_=(([l0] :List (List Int))):=⟨_,rfl⟩;(first|replace H:=by_ hy145 H|rw[←hy145]at H);(try dsimp only at H);have Ny145:=Aside0.mk hy145;clear hy145;obtain⟨t148,A2,H⟩:=bO H;(try dsimp only at H);obtain rfl:=Option.some.inj H;go_enter Tryd.func64,Tryd.ntmps64
 go_wp2_with (first| (refine gD 4 ?_;refine Kd.N_lit (Kd.slice 97 (Kd.int .u32)) _ 40 ?hg (N':=4) ?hd (xs:=([l0] :List (List Int))) (inner:= [.slice A0 l0.length c0]) (ok:=(fun k_=>(P0_ k_∨w.heap.size≤k_))) (okp:=(fun k_=>(P0_ k_∨w.heap.size≤k_))) ?hr ?hp (fun _ hk=>hk) ((show∀k_,w.heap.size≤k_→(fun k_=>(P0_ k_∨w.heap.size≤k_)) k_ from fun k_ hk=>(.inr (Nat.le_trans (below_size bQ) hk))) _ (Nat.le_refl _)) (Below.refl _ _) (Nat.le_refl _) (by simp) ?_;(case hd=>rfl);(case hg=>rfl);(case hr=>first| (go_simp;done) | (go_simp;rfl));(case hp=>exact(Reps.one (show Kd.FK (Kd.slice 97 (Kd.int .u32)) _ _ l0 [.slice A0 l0.length c0]from(Kd.FK_slice_mk (Kd.V_reads' (Kd.V_mono (ok':=(fun k_=>(P0_ k_∨w.heap.size≤k_))) (HO0.out) (fun k_ hk=>hk))).2.1 (Kd.V_F (Kd.V_mono (ok':=(fun k_=>(P0_ k_∨w.heap.size≤k_))) (HO0.out) (fun k_ hk=>hk))))) (Reps.none _ _)));intro v146 w3 ho4 hb hg_ hnew_;clear hg_ hnew_;(first|rw[←Ny145.out]at ho4| (simp only[Int.reduceToNat]at ho4;rw[←Ny145.out]at ho4));have HO147:=Aside0.mk (Kd.N_lower ho4 (below_size bQ));replace HO0:=Aside0.mk (Kd.V_elder' (pVQ HO0.out) (Kd.N_base ho4) hb);replace HB:=hsQ hb;clear hb ho4;obtain⟨Ao5,co5,eo5⟩:=Kd.N_slice HO147.out;subst eo5) | (refine gF 77 ?_;refine gl_ (some 5) Tryd.func77 #[.slice Ao5 y145.length co5] ?_;(with_reducible refine(nat_form.calls k _ _ y145 t148 _ (cQ ((Kd.N_reads' HO147.out).2.2)) ((Kd.N_reads' HO147.out).2.1) A2.out).mono ?_);rintro e w' ⟨rfl,⟨nd,rfl⟩⟩;refine⟨_,rfl,?_⟩))
 go_ret;exact⟨eQ,bQ⟩
def bits_Len32.ren:Go.Shelf.Ren:=⟨fun|128=>91|n=>n,fun|51=>97|3=>3|4=>4|46=>107|5=>5|9=>9|n=>n,fun|n=>n⟩
theorem bits_Len32.lays:Go.Proofs.Lays.n128 Tryd.prog bits_Len32.ren:= {
 mixed:=by kernel_rfl
 f128:=Tryd.func91.trans (congrArg some (by kernel_rfl))
 t3:=Tryd.underlying3
 a3:=Tryd.isAgg3
 z3:=Tryd.sizeOf3
 v3:=Tryd.zeroValue3
 t4:=Tryd.underlying4
 a4:=Tryd.isAgg4
 z4:=Tryd.sizeOf4
 v4:=Tryd.zeroValue4
 t5:=Tryd.underlying5
 a5:=Tryd.isAgg5
 z5:=Tryd.sizeOf5
 v5:=Tryd.zeroValue5
 t9:=Tryd.underlying9
 a9:=Tryd.isAgg9
 z9:=Tryd.sizeOf9
 v9:=Tryd.zeroValue9
 t46:=Tryd.underlying107
 a46:=Tryd.isAgg107
 z46:=Tryd.sizeOf107
 v46:=Tryd.zeroValue107
 t51:=Tryd.underlying97
 a51:=Tryd.isAgg97
 z51:=Tryd.sizeOf97
 v51:=Tryd.zeroValue97}
def bits_Len32.f(a0:Int):Option Int:=if 0≤a0 then(if a0≤4294967295 then some (Lib.bitLen a0.toNat:Int)else none)else none
theorem bits_Len32.calls(a0:Int)(r:Int)(w:World)(h:bits_Len32.f a0=some r):
  Calls Tryd.prog 91 #[.int .u32 a0] w fun e w'=>e= .returned (.int .i64 r)∧Drawn0 w w':=by
 unfold bits_Len32.f at h;by_cases h0:0≤a0
 ·by_cases h1:a0≤4294967295
  ·rw[if_pos h0,if_pos h1]at h;cases h;exact(Any.bits_Len32 bits_Len32.lays a0 w h0 h1).mono fun e w' ⟨he,hw⟩=>⟨he,hw▸Drawn0.refl w⟩
  ·rw[if_pos h0,if_neg h1]at h;cases h
 ·rw[if_neg h0]at h;cases h
def nat_size.f(l0:List Int):Option (Int):=if(l0.length:Int)=0 then(some 0)else(if 0≤(wrap64 ((l0.length:Int) - 1))then(if(wrap64 ((l0.length:Int) - 1))< (l0.length:Int)then((bits_Len32.f (rd l0 (wrap64 ((l0.length:Int) - 1)))).bind fun t150=>(some (wrap64 ((wrap64 (32 * (wrap64 ((l0.length:Int) - 1)))) +t150))))else(none))else(none))
theorem nat_size.calls(A0:Option Addr)(c0:Nat)(l0:List Int)(r:Int)(w:World)(hr0:Kd.C (Kd.int .u32) w A0 l0.length l0)(hc0:l0.length≤c0)(h:nat_size.f l0=some r):
  Calls Tryd.prog 85 #[.slice A0 l0.length c0] w fun e w'=>e= .returned (.int .i64 r)∧Drawn0 w w':=by
 have HR0:=Aside0.mk hr0;have HC0:=Aside0.mk hc0;clear hr0 hc0;have H:=h;clear h;unfold nat_size.f at H;by_cases c2:(l0.length:Int)=0
 ·rw[if_pos c2]at H;have c2b0:=beq_iff_eq.mpr c2;have c2b1:=bne_eq_false_iff_eq.mpr c2;clear c2;obtain rfl:=Option.some.inj H;go_enter Tryd.func85,Tryd.ntmps85
  go_wp2
  go_ret;exact⟨by first|rfl| (simp;done) | (simp[*];done),by repeat(first|exact Drawn0.refl _|apply Drawn0.step)⟩
 ·rw[if_neg c2]at H;have c2b0:=beq_eq_false_iff_ne.mpr c2;have c2b1:=bne_iff_ne.mpr c2;have c2b2: ¬ (l0= []):=fun h_=>c2 (by rw[h_];rfl)
  obtain⟨ji3,hji3⟩: ∃j_:Int,(wrap64 ((l0.length:Int) - 1))=j_:=⟨_,rfl⟩;(first|rw[hji3]at H|simp only[hji3]at H);have hji3w:(IntKind.i64.wrap ((l0.length:Int) - 1))=ji3:=(i64_w _).trans hji3;replace H:=iN H;obtain⟨c4,H⟩:=H;have c4b0:=decide_eq_true c4;clear c4;replace H:=iN H;obtain⟨c5,H⟩:=H;have c5b0:=decide_eq_true c5;clear c5;obtain⟨t150,A6,H⟩:=bO H;(try dsimp only at H);obtain rfl:=Option.some.inj H;have p149:0≤((ji3):Int):=dQ;have q149:(ji3)< (l0.length:Int):=dQ;obtain⟨ad149,e149,hx149_0⟩:=Kd.at_int HR0.out (ji3) p149 q149;cases e149;replace p149:=eq_true p149;replace q149:=eq_true q149;go_enter Tryd.func85,Tryd.ntmps85
  go_wp2_with (first| (refine gF 91 ?_;refine goesL_ (some 16) rfl rfl Tryd.func91 (by kernel_rfl) rfl #[.int .u32 (rd l0 (ji3))] rfl (by(try simp only[List.map_toArray,List.map_cons,List.map_nil]);first|done| (simp only[hji3];rfl) |rfl| (simp only[List.length_drop,List.length_take];rfl)) ?_;(with_reducible refine(bits_Len32.calls (rd l0 (ji3)) t150 _ A6.out).mono ?_);rintro e w' ⟨rfl,⟨nd,rfl⟩⟩;refine⟨_,rfl,?_⟩))
  go_ret;exact⟨by first|rfl| (simp;done) | (simp only[←hji3] <;>(first|rfl|simp)) | (simp[*];done),by repeat(first|exact Drawn0.refl _|apply Drawn0.step)⟩
def nat_Bits.f(k:Nat)(l0:List Int):Option (Int×Int):=(nat_form.f k (([l0] :List (List Int)))).bind fun t154=>(if t154=0 then((nat_size.f l0).bind fun t155=>(some (t155,0)))else(some (0,t154)))
theorem nat_Bits.calls(k:Nat)(P0_:Nat→Prop)(A0:Option Addr)(c0:Nat)(l0:List Int)(r1:Int)(r2:Int)(w:World)(hs0:Kd.V (Kd.int .u32) 97 w w.heap.size (fun k_=>P0_ k_) (.slice A0 l0.length c0) l0)(h:nat_Bits.f k l0=some (r1,r2)):
  Calls Tryd.prog 78 #[.slice A0 l0.length c0] w fun e w'=>e= .returned (.tuple #[.int .i64 r1,.int .i64 r2])∧Below w.heap.size w w':=by
 have HO0:=Aside0.mk (show Kd.V (Kd.int .u32) 97 w w.heap.size (fun k_=>(P0_ k_∨w.heap.size≤k_)) (.slice A0 l0.length c0) l0 from Kd.V_mono hs0 (fun k_ hk=> .inl hk));have HB:=Aside0.mk (Below.refl w.heap.size w);have H:=h;clear h;unfold nat_Bits.f at H;obtain⟨y151,hy151⟩: ∃y_:List (List Int),y_=(([l0] :List (List Int))):=⟨_,rfl⟩;(first|replace H:=by_ hy151 H|rw[←hy151]at H);(try dsimp only at H);have Ny151:=Aside0.mk hy151;clear hy151;obtain⟨t154,A2,H⟩:=bO H;(try dsimp only at H);by_cases c3:t154=0
 ·rw[if_pos c3]at H;have c3b0:=beq_iff_eq.mpr c3;have c3b1:=bne_eq_false_iff_eq.mpr c3;clear c3;obtain⟨t155,A4,H⟩:=bO H;(try dsimp only at H);simp only[Option.some.injEq,Prod.mk.injEq]at H;obtain⟨rfl,rfl⟩:=H;go_enter Tryd.func78,Tryd.ntmps78
  go_wp2_with (first| (refine gD 6 ?_;refine Kd.N_lit (Kd.slice 97 (Kd.int .u32)) _ 40 ?hg (N':=6) ?hd (xs:=([l0] :List (List Int))) (inner:= [.slice A0 l0.length c0]) (ok:=(fun k_=>(P0_ k_∨w.heap.size≤k_))) (okp:=(fun k_=>(P0_ k_∨w.heap.size≤k_))) ?hr ?hp (fun _ hk=>hk) ((show∀k_,w.heap.size≤k_→(fun k_=>(P0_ k_∨w.heap.size≤k_)) k_ from fun k_ hk=>(.inr (Nat.le_trans (below_size bQ) hk))) _ (Nat.le_refl _)) (Below.refl _ _) (Nat.le_refl _) (by simp) ?_;(case hd=>rfl);(case hg=>rfl);(case hr=>first| (go_simp;done) | (go_simp;rfl));(case hp=>exact(Reps.one (show Kd.FK (Kd.slice 97 (Kd.int .u32)) _ _ l0 [.slice A0 l0.length c0]from(Kd.FK_slice_mk (Kd.V_reads' (Kd.V_mono (ok':=(fun k_=>(P0_ k_∨w.heap.size≤k_))) (HO0.out) (fun k_ hk=>hk))).2.1 (Kd.V_F (Kd.V_mono (ok':=(fun k_=>(P0_ k_∨w.heap.size≤k_))) (HO0.out) (fun k_ hk=>hk))))) (Reps.none _ _)));intro v152 w5 ho6 hb hg_ hnew_;clear hg_ hnew_;(first|rw[←Ny151.out]at ho6| (simp only[Int.reduceToNat]at ho6;rw[←Ny151.out]at ho6));have HO153:=Aside0.mk (Kd.N_lower ho6 (below_size bQ));replace HO0:=Aside0.mk (Kd.V_elder' (pVQ HO0.out) (Kd.N_base ho6) hb);replace HB:=hsQ hb;clear hb ho6;obtain⟨Ao7,co7,eo7⟩:=Kd.N_slice HO153.out;subst eo7) | (refine gF 77 ?_;refine gl_ (some 7) Tryd.func77 #[.slice Ao7 y151.length co7] ?_;(with_reducible refine(nat_form.calls k _ _ y151 t154 _ (cQ ((Kd.N_reads' HO153.out).2.2)) ((Kd.N_reads' HO153.out).2.1) A2.out).mono ?_);rintro e w' ⟨rfl,⟨nd,rfl⟩⟩;refine⟨_,rfl,?_⟩) | (refine gF 85 ?_;refine gl_ (some 12) Tryd.func85 #[.slice A0 l0.length c0] ?_;(with_reducible refine(nat_size.calls _ _ l0 t155 _ (cQ ((Kd.V_reads' HO0.out).2.2)) ((Kd.V_reads' HO0.out).2.1) A4.out).mono ?_);rintro e w' ⟨rfl,⟨nd,rfl⟩⟩;refine⟨_,rfl,?_⟩))
  go_ret2;exact⟨eQ,bQ⟩
 ·rw[if_neg c3]at H;have c3b0:=beq_eq_false_iff_ne.mpr c3;have c3b1:=bne_iff_ne.mpr c3;simp only[Option.some.injEq,Prod.mk.injEq]at H;obtain⟨rfl,rfl⟩:=H;go_enter Tryd.func78,Tryd.ntmps78
  go_wp2_with (first| (refine gD 6 ?_;refine Kd.N_lit (Kd.slice 97 (Kd.int .u32)) _ 40 ?hg (N':=6) ?hd (xs:=([l0] :List (List Int))) (inner:= [.slice A0 l0.length c0]) (ok:=(fun k_=>(P0_ k_∨w.heap.size≤k_))) (okp:=(fun k_=>(P0_ k_∨w.heap.size≤k_))) ?hr ?hp (fun _ hk=>hk) ((show∀k_,w.heap.size≤k_→(fun k_=>(P0_ k_∨w.heap.size≤k_)) k_ from fun k_ hk=>(.inr (Nat.le_trans (below_size bQ) hk))) _ (Nat.le_refl _)) (Below.refl _ _) (Nat.le_refl _) (by simp) ?_;(case hd=>rfl);(case hg=>rfl);(case hr=>first| (go_simp;done) | (go_simp;rfl));(case hp=>exact(Reps.one (show Kd.FK (Kd.slice 97 (Kd.int .u32)) _ _ l0 [.slice A0 l0.length c0]from(Kd.FK_slice_mk (Kd.V_reads' (Kd.V_mono (ok':=(fun k_=>(P0_ k_∨w.heap.size≤k_))) (HO0.out) (fun k_ hk=>hk))).2.1 (Kd.V_F (Kd.V_mono (ok':=(fun k_=>(P0_ k_∨w.heap.size≤k_))) (HO0.out) (fun k_ hk=>hk))))) (Reps.none _ _)));intro v152 w8 ho9 hb hg_ hnew_;clear hg_ hnew_;(first|rw[←Ny151.out]at ho9| (simp only[Int.reduceToNat]at ho9;rw[←Ny151.out]at ho9));have HO153:=Aside0.mk (Kd.N_lower ho9 (below_size bQ));replace HO0:=Aside0.mk (Kd.V_elder' (pVQ HO0.out) (Kd.N_base ho9) hb);replace HB:=hsQ hb;clear hb ho9;obtain⟨Ao10,co10,eo10⟩:=Kd.N_slice HO153.out;subst eo10) | (refine gF 77 ?_;refine gl_ (some 7) Tryd.func77 #[.slice Ao10 y151.length co10] ?_;(with_reducible refine(nat_form.calls k _ _ y151 t154 _ (cQ ((Kd.N_reads' HO153.out).2.2)) ((Kd.N_reads' HO153.out).2.1) A2.out).mono ?_);rintro e w' ⟨rfl,⟨nd,rfl⟩⟩;refine⟨_,rfl,?_⟩))
  go_ret2;exact⟨eQ,bQ⟩
def frac_long.f(k:Nat)(l0:List Int):Option (Bool):=(nat_Bits.f k l0).bind fun bt156=>(if bt156.2=0 then(some (decide (bt156.1 >4096)))else(some true))
theorem frac_long.calls(k:Nat)(A0:Option Addr)(c0:Nat)(l0:List Int)(r:Bool)(w:World)(hr0:Kd.C (Kd.int .u32) w A0 l0.length l0)(hc0:l0.length≤c0)(h:frac_long.f k l0=some r):
  Calls Tryd.prog 65 #[.slice A0 l0.length c0] w fun e w'=>e= .returned (.bool r)∧Below w.heap.size w w':=by
 have HR0:=Aside0.mk hr0;have HC0:=Aside0.mk hc0;clear hr0 hc0;have HB:=Aside0.mk (Below.refl w.heap.size w);have H:=h;clear h;unfold frac_long.f at H;obtain⟨⟨t156,t157⟩,A2,H⟩:=bO H;(try dsimp only at H);by_cases c3:t157=0
 ·rw[if_pos c3]at H;have c3b0:=beq_iff_eq.mpr c3;have c3b1:=bne_eq_false_iff_eq.mpr c3;clear c3;obtain rfl:=Option.some.inj H;go_enter Tryd.func65,Tryd.ntmps65
  go_wp2_with (first| (refine gF 78 ?_;refine gl_ (some 7) Tryd.func78 #[.slice A0 l0.length c0] ?_;(with_reducible refine(nat_Bits.calls k (fun k_=>k_< w.heap.size) _ _ l0 t156 t157 _ (Kd.V_mk HC0.out (Kd.F_below (Kd.C_F (Kd.heap_int .u32) HR0.out) bQ)) A2.out).mono ?_);rintro e w4 ⟨rfl,hb⟩;refine⟨_,rfl,?_⟩;replace HB:=Aside0.mk (below_step bQ hb);(try clear hb)))
  go_ret;exact⟨eQ,bQ⟩
 ·rw[if_neg c3]at H;have c3b0:=beq_eq_false_iff_ne.mpr c3;have c3b1:=bne_iff_ne.mpr c3;obtain rfl:=Option.some.inj H;go_enter Tryd.func65,Tryd.ntmps65
  go_wp2_with (first| (refine gF 78 ?_;refine gl_ (some 7) Tryd.func78 #[.slice A0 l0.length c0] ?_;(with_reducible refine(nat_Bits.calls k (fun k_=>k_< w.heap.size) _ _ l0 t156 t157 _ (Kd.V_mk HC0.out (Kd.F_below (Kd.C_F (Kd.heap_int .u32) HR0.out) bQ)) A2.out).mono ?_);rintro e w5 ⟨rfl,hb⟩;refine⟨_,rfl,?_⟩;replace HB:=Aside0.mk (below_step bQ hb);(try clear hb)))
  go_ret;exact⟨eQ,bQ⟩
def slices_Clone_uint32_uint32.f(l0:List Int):Option (List Int):=if l0.length< 35184372088832 then some l0 else none
theorem slices_Clone_uint32_uint32.calls(A0:Option Addr)(c0:Nat)(l0:List Int)(r:List Int)(w:World)(hr0:Kd.C (Kd.int .u32) w A0 l0.length l0)(hc0:l0.length≤c0)(h:slices_Clone_uint32_uint32.f l0=some r):
  Calls Tryd.prog 67 #[.slice A0 l0.length c0] w fun e w'=> ∃v0_:Value,e= .returned (v0_)∧Kd.R (Kd.int .u32) 97 w' w.heap.size (fun _=>True) v0_ r∧Below w.heap.size w w':=by
 have HR0:=Aside0.mk hr0;clear hc0;unfold slices_Clone_uint32_uint32.f at h;by_cases c1:l0.length< 35184372088832
 ·rw[if_pos c1]at h;cases h;have LM:=Aside0.mk c1;clear c1;have HB:=Aside0.mk (Below.refl w.heap.size w);cases A0 with
  |none=>
   have h0:l0= [] :=by
    rcases l0 with _| ⟨x,l⟩
    ·rfl
    ·obtain⟨ad,e,_⟩:=hr0.2.2 (by simp);cases e
   subst h0;clear hr0;have hn:=Lib.run_eql_slice_nil (P:=Tryd.prog) (w:=w) (t:=40) (e:=97) (a:=none) (n:=0) (c:=c0) (n':=0) (c':=0) Tryd.underlying40;go_enter Tryd.func67,Tryd.ntmps67
   go_wp2_with fail
   go_ret;exact⟨_,rfl,Kd.R_nil _ _ _ _ _,Below.refl _ _⟩
  |some ad=>
   clear hr0;have hn:=Lib.run_eql_slice_nil (P:=Tryd.prog) (w:=w) (t:=40) (e:=97) (a:=some ad) (n:=l0.length) (c:=c0) (n':=0) (c':=0) Tryd.underlying40;go_enter Tryd.func67,Tryd.ntmps67
   go_wp2_with (first
    | (refine gD 5 ?_;refine li_ (Kd.int .u32) 97 5 ([] :List Int) [] (Reps.none _ _) ?_;intro v1 w1 ho hb _ _;have HO:=Aside0.mk ho;have HB:=Aside0.mk hb;clear ho hb)
    | ((with_reducible refine gate_builtin (b:= .append) (xs:= #[.tmp 5,.tmp 6]) rfl ?_);at_builtin;refine Kd.R_append_rows (Kd.int .u32) (w0:=w) w.heap.size rfl (.tmp 5) (.tmp 6) 40 97 (.int .u32 0) 4 rfl Tryd.underlying40 info97 rfl (by decide) (by omega) v1 ([] :List Int) l0 _ _ _ (fun _=>True) (fun _=>False) rfl rfl ?aO ?aR (fun _ _ h=>h) (fun _ h=>h.elim) ?aF ?aB ?aS ?aL ?_;(case aR=>exact Kd.C_below HR0.out HB.out);(case aB=>exact HB.out);(case aF=>exact(fun _ _=>trivial));(case aO=>exact HO.out);(case aS=>exact HB.out.size);(case aL=>have:=LM.out;simp only[List.length_nil];omega);intro v2 w2 ho hb _ _;have HO2:=Aside0.mk ho;have HB2:=Aside0.mk hb;clear ho hb))
   go_ret;exact⟨_,rfl,HO2.out,HB2.out⟩
 ·rw[if_neg c1]at h;cases h
def nat_compare.l0:Nat→List Int→List Int→Int→Option (Int)
 |0,_,_,_=>none
 |k+1,x0,x1,x5=>if x5≥0 then(if 0≤x5 then(if x5< (x0.length:Int)then(if x5< (x1.length:Int)then(if(rd x0 x5)=(rd x1 x5)then(nat_compare.l0 k x0 x1 (wrap64 (x5 - 1)))else(if(rd x0 x5)< (rd x1 x5)then(some (-1))else(some 1)))else(none))else(none))else(none))else(some 0)
def nat_compare.f(k:Nat)(l0:List Int)(l1:List Int):Option (Int):=if(l0.length:Int)< (l1.length:Int)then(some (-1))else(if(l0.length:Int) >(l1.length:Int)then(some 1)else(nat_compare.l0 k l0 l1 (wrap64 ((l0.length:Int) - 1))))
theorem nat_compare.calls(k:Nat)(A0:Option Addr)(c0:Nat)(l0:List Int)(A1:Option Addr)(c1:Nat)(l1:List Int)(r:Int)(w:World)(hr0:Kd.C (Kd.int .u32) w A0 l0.length l0)(hc0:l0.length≤c0)(hr1:Kd.C (Kd.int .u32) w A1 l1.length l1)(hc1:l1.length≤c1)(h:nat_compare.f k l0 l1=some r):
  Calls Tryd.prog 92 #[.slice A0 l0.length c0,.slice A1 l1.length c1] w fun e w'=>e= .returned (.int .i64 r)∧Drawn0 w w':=by
 have HR0:=Aside0.mk hr0;have HC0:=Aside0.mk hc0;clear hr0 hc0;have HR1:=Aside0.mk hr1;have HC1:=Aside0.mk hc1;clear hr1 hc1;have H:=h;clear h;unfold nat_compare.f at H;by_cases c3:(l0.length:Int)< (l1.length:Int)
 ·rw[if_pos c3]at H;have c3b0:=decide_eq_true c3;have c3b1:decide (l0.length< l1.length)=true:=decide_eq_true (Int.ofNat_lt.mp c3);clear c3;obtain rfl:=Option.some.inj H;go_enter Tryd.func92,Tryd.ntmps92
  go_wp2
  repeat(go_quiet (fail);try go_wp2)
  go_ret;exact⟨by first|rfl| (simp;done) | (simp[*];done),by repeat(first|exact Drawn0.refl _|apply Drawn0.step)⟩
 ·rw[if_neg c3]at H;have c3b0:=decide_eq_false c3;have c3b1:decide (l0.length< l1.length)=false:=decide_eq_false (fun h=>c3 (Int.ofNat_lt.mpr h));clear c3;by_cases c4:(l0.length:Int) >(l1.length:Int)
  ·rw[if_pos c4]at H;have c4b0:=decide_eq_true c4;have c4b1:decide (l1.length< l0.length)=true:=decide_eq_true (Int.ofNat_lt.mp c4);clear c4;obtain rfl:=Option.some.inj H;go_enter Tryd.func92,Tryd.ntmps92
   go_wp2
   repeat(go_quiet (fail);try go_wp2)
   go_ret;exact⟨by first|rfl| (simp;done) | (simp[*];done),by repeat(first|exact Drawn0.refl _|apply Drawn0.step)⟩
  ·rw[if_neg c4]at H;have c4b0:=decide_eq_false c4;have c4b1:decide (l1.length< l0.length)=false:=decide_eq_false (fun h=>c4 (Int.ofNat_lt.mpr h));clear c4;have H':=Aside0.mk H;clear H;go_enter Tryd.func92,Tryd.ntmps92
   go_wp2
   repeat(go_quiet (fail);try go_wp2)
   go_loopg [5] k (fun kq v5 w'=> ∃ (x5_1:Int),v5= .int .i64 x5_1∧Aside0 (nat_compare.l0 kq l0 l1 x5_1=some r)∧Aside0 (kq≤k)∧Drawn0 w w')
   case atStart=>exact⟨(wrap64 ((l0.length:Int) - 1)),eS,H',⟨Nat.le_refl _⟩,by repeat(first|exact Drawn0.refl _|apply Drawn0.step)⟩
   case round=>
    clear H';(try clear c1);(try clear p2);(try clear c3);(try clear c3b0);(try clear c3b1);(try clear c4);(try clear c4b0);(try clear c4b1);obtain⟨x5_1,rfl,HA,HK1,⟨m1,rfl⟩⟩:=hrel;cases gk with
    |zero=>exact absurd HA.out (by simp[nat_compare.l0])
    |succ k1=>
     have H:=HA.out;clear HA;simp only[nat_compare.l0]at H;by_cases c5:x5_1≥0
     ·rw[if_pos c5]at H;have c5b0:=decide_eq_true c5;clear c5;replace H:=iN H;obtain⟨c6,H⟩:=H;have c6b0:=decide_eq_true c6;clear c6;replace H:=iN H;obtain⟨c7,H⟩:=H;have c7b0:=decide_eq_true c7;clear c7;replace H:=iN H;obtain⟨c8,H⟩:=H;have c8b0:=decide_eq_true c8;clear c8;by_cases c9:(rd l0 x5_1)=(rd l1 x5_1)
      ·rw[if_pos c9]at H;have c9b0:=beq_iff_eq.mpr c9;have c9b1:=bne_eq_false_iff_eq.mpr c9;clear c9;have H':=Aside0.mk H;clear H;have p158:0≤(x5_1:Int):=dQ;have q158:x5_1< (l0.length:Int):=dQ;obtain⟨ad158,e158,hx158_0⟩:=Kd.at_int HR0.out x5_1 p158 q158;cases e158;replace p158:=eq_true p158;replace q158:=eq_true q158;have p159:0≤(x5_1:Int):=dQ;have q159:x5_1< (l1.length:Int):=dQ;obtain⟨ad159,e159,hx159_0⟩:=Kd.at_int HR1.out x5_1 p159 q159;cases e159;replace p159:=eq_true p159;replace q159:=eq_true q159;go_wp2
       repeat(go_quiet (fail);try go_wp2)
       go_roundg k1
       case measure=>have:=HK1.out;omega
       case rel=>exact⟨(wrap64 (x5_1 - 1)),eS,H',⟨by have:=HK1.out;omega⟩,by repeat(first|exact Drawn0.refl _|apply Drawn0.step)⟩
      ·rw[if_neg c9]at H;have c9b0:=beq_eq_false_iff_ne.mpr c9;have c9b1:=bne_iff_ne.mpr c9;by_cases c10:(rd l0 x5_1)< (rd l1 x5_1)
       ·rw[if_pos c10]at H;have c10b0:=decide_eq_true c10;clear c10;obtain rfl:=Option.some.inj H;have p158:0≤(x5_1:Int):=dQ;have q158:x5_1< (l0.length:Int):=dQ;obtain⟨ad158,e158,hx158_0⟩:=Kd.at_int HR0.out x5_1 p158 q158;cases e158;replace p158:=eq_true p158;replace q158:=eq_true q158;have p159:0≤(x5_1:Int):=dQ;have q159:x5_1< (l1.length:Int):=dQ;obtain⟨ad159,e159,hx159_0⟩:=Kd.at_int HR1.out x5_1 p159 q159;cases e159;replace p159:=eq_true p159;replace q159:=eq_true q159;have p160:0≤(x5_1:Int):=dQ;have q160:x5_1< (l0.length:Int):=dQ;obtain⟨ad160,e160,hx160_0⟩:=Kd.at_int HR0.out x5_1 p160 q160;obtain rfl:ad158=ad160:=(by injection e160);replace p160:=eq_true p160;replace q160:=eq_true q160;have p161:0≤(x5_1:Int):=dQ;have q161:x5_1< (l1.length:Int):=dQ;obtain⟨ad161,e161,hx161_0⟩:=Kd.at_int HR1.out x5_1 p161 q161;obtain rfl:ad159=ad161:=(by injection e161);replace p161:=eq_true p161;replace q161:=eq_true q161;go_wp2
        repeat(go_quiet (fail);try go_wp2)
        go_ret;exact⟨by first|rfl| (simp;done) | (simp[*];done),by repeat(first|exact Drawn0.refl _|apply Drawn0.step)⟩
       ·rw[if_neg c10]at H;have c10b0:=decide_eq_false c10;clear c10;obtain rfl:=Option.some.inj H;have p158:0≤(x5_1:Int):=dQ;have q158:x5_1< (l0.length:Int):=dQ;obtain⟨ad158,e158,hx158_0⟩:=Kd.at_int HR0.out x5_1 p158 q158;cases e158;replace p158:=eq_true p158;replace q158:=eq_true q158;have p159:0≤(x5_1:Int):=dQ;have q159:x5_1< (l1.length:Int):=dQ;obtain⟨ad159,e159,hx159_0⟩:=Kd.at_int HR1.out x5_1 p159 q159;cases e159;replace p159:=eq_true p159;replace q159:=eq_true q159;have p160:0≤(x5_1:Int):=dQ;have q160:x5_1< (l0.length:Int):=dQ;obtain⟨ad160,e160,hx160_0⟩:=Kd.at_int HR0.out x5_1 p160 q160;obtain rfl:ad158=ad160:=(by injection e160);replace p160:=eq_true p160;replace q160:=eq_true q160;have p161:0≤(x5_1:Int):=dQ;have q161:x5_1< (l1.length:Int):=dQ;obtain⟨ad161,e161,hx161_0⟩:=Kd.at_int HR1.out x5_1 p161 q161;obtain rfl:ad159=ad161:=(by injection e161);replace p161:=eq_true p161;replace q161:=eq_true q161;go_wp2
        repeat(go_quiet (fail);try go_wp2)
        go_ret;exact⟨by first|rfl| (simp;done) | (simp[*];done),by repeat(first|exact Drawn0.refl _|apply Drawn0.step)⟩
     ·rw[if_neg c5]at H;have c5b0:=decide_eq_false c5;clear c5;obtain rfl:=Option.some.inj H;go_wp2
      repeat(go_quiet (fail);try go_wp2)
      go_ret;exact⟨by first|rfl| (simp;done) | (simp[*];done),by repeat(first|exact Drawn0.refl _|apply Drawn0.step)⟩
def nat_trim.l0:Nat→List Int→Option (List Int)
 |0,_=>none
 |k+1,x0=>if(x0.length:Int) >0 then(if 0≤(wrap64 ((x0.length:Int) - 1))then(if(wrap64 ((x0.length:Int) - 1))< (x0.length:Int)then(if(rd x0 (wrap64 ((x0.length:Int) - 1)))=0 then(if(wrap64 ((x0.length:Int) - 1))≤(x0.length:Int)then(nat_trim.l0 k (x0.take ((wrap64 ((x0.length:Int) - 1)):Int).toNat))else(none))else(some x0))else(none))else(none))else(some x0)
def nat_trim.f(k:Nat)(l0:List Int):Option (List Int):=nat_trim.l0 k l0
theorem nat_trim.calls(k:Nat)(P0_:Nat→Prop)(A0:Option Addr)(c0:Nat)(l0:List Int)(r:List Int)(w:World)(hs0:Kd.V (Kd.int .u32) 97 w w.heap.size (fun k_=>P0_ k_) (.slice A0 l0.length c0) l0)(h:nat_trim.f k l0=some r):
  Calls Tryd.prog 94 #[.slice A0 l0.length c0] w fun e w'=> ∃v0_:Value,e= .returned (v0_)∧Kd.V (Kd.int .u32) 97 w' w.heap.size (fun k_=>(P0_ k_∨w.heap.size≤k_)) v0_ r∧Below w.heap.size w w':=by
 have HO0:=Aside0.mk (show Kd.V (Kd.int .u32) 97 w w.heap.size (fun k_=>(P0_ k_∨w.heap.size≤k_)) (.slice A0 l0.length c0) l0 from Kd.V_mono hs0 (fun k_ hk=> .inl hk));have HB:=Aside0.mk (Below.refl w.heap.size w);have H:=h;clear h;unfold nat_trim.f at H;have H':=Aside0.mk H;clear H;go_enter Tryd.func94,Tryd.ntmps94
 go_wp2
 go_loopg [0] k (fun kq v0 w'=> ∃ (x0_1:List Int),Aside0 (nat_trim.l0 kq x0_1=some r)∧Aside0 (kq≤k)∧Aside0 (Kd.V (Kd.int .u32) 97 w' w.heap.size (fun k_=>(P0_ k_∨w.heap.size≤k_)) v0 x0_1)∧Aside0 (Below w.heap.size w w'))
 case atStart=>exact⟨(l0),H',⟨Nat.le_refl _⟩,⟨vX (h:=HO0.out)⟩,⟨bQ⟩⟩
 case round=>
  clear H';obtain⟨x0_1,HA,HK1,HO_0,HB⟩:=hrel;cases gk with
  |zero=>exact absurd HA.out (by simp[nat_trim.l0])
  |succ k1=>
   have H:=HA.out;clear HA;simp only[nat_trim.l0]at H;by_cases c2:(x0_1.length:Int) >0
   ·rw[if_pos c2]at H;have c2b0:=decide_eq_true c2;have c2b1:decide (0< x0_1.length)=true:=decide_eq_true (by omega);clear c2;obtain⟨ji3,hji3⟩: ∃j_:Int,(wrap64 ((x0_1.length:Int) - 1))=j_:=⟨_,rfl⟩;(first|rw[hji3]at H|simp only[hji3]at H);have hji3w:(IntKind.i64.wrap ((x0_1.length:Int) - 1))=ji3:=(i64_w _).trans hji3;replace H:=iN H;obtain⟨c4,H⟩:=H;have c4b0:=decide_eq_true c4;clear c4;replace H:=iN H;obtain⟨c5,H⟩:=H;have c5b0:=decide_eq_true c5;clear c5;by_cases c6:(rd x0_1 (ji3))=0
    ·rw[if_pos c6]at H;have c6b0:=beq_iff_eq.mpr c6;have c6b1:=bne_eq_false_iff_eq.mpr c6;clear c6;have c7b0:=eq_true (dQ:0≤(ji3));replace H:=iN H;obtain⟨c8,H⟩:=H;have c8b0:=eq_true c8;have c8b1:=decide_eq_true c8;clear c8;obtain⟨y163,hy163⟩: ∃y_:List Int,y_=(x0_1.take ((ji3):Int).toNat):=⟨_,rfl⟩;(first|replace H:=by_ hy163 H|rw[←hy163]at H);(try dsimp only at H);have Ny163:=Aside0.mk hy163;clear hy163;have H':=Aside0.mk H;clear H;obtain⟨Ao9,co9,eo9⟩:=Kd.V_slice HO_0.out;subst eo9;have p162:0≤((ji3):Int):=dQ;have q162:(ji3)< (x0_1.length:Int):=dQ;obtain⟨ad162,e162,hx162_0⟩:=Kd.at_int (Kd.V_reads' HO_0.out).2.2 (ji3) p162 q162;cases e162;replace p162:=eq_true p162;replace q162:=eq_true q162;have q10:((ji3):Int)≤((x0_1.length:Int):Int):=dQ;obtain⟨i010,hi010,_,hsz10,_⟩:=info_parts info97;have hroom10:x0_1.length≤co9:=(Kd.V_reads' HO_0.out).2.1;have hC10:Kd.F (Kd.int .u32) _ _ (some ad162) x0_1.length x0_1:=(Kd.V_at (base:=w.heap.size) HO_0.out).2.2;have hcut10:=cut_to (P:=Tryd.prog) 40 97 .i64 Tryd.underlying40 hi010 (some ad162) x0_1.length co9 (ji3) (dQ) q10 hroom10;have hr10:=Kd.F_take (m:=((ji3):Int).toNat) hC10 (by omega);have hy10:y163.length=((ji3):Int).toNat:=(by rw[Ny163.out,List.length_take];omega);rw[←Ny163.out]at hr10;rw[←hy10]at hcut10;have HO167:=Aside0.mk (show Kd.V (Kd.int .u32) 97 _ w.heap.size _ (.slice (some ad162) y163.length co9) y163 from Kd.V_mk (by omega) hr10);have HC167:=Aside0.mk (show y163.length≤co9 from by omega);clear hr10 hC10 hroom10 hi010 hsz10;have KY10:=Aside0.mk hy10;clear hy10;replace q10:=eq_true q10;go_wp2
     go_roundg k1
     case measure=>have:=HK1.out;omega
     case rel=>exact⟨(y163),H',⟨by have:=HK1.out;omega⟩,⟨vX (h:=HO167.out)⟩,⟨bQ⟩⟩
    ·rw[if_neg c6]at H;have c6b0:=beq_eq_false_iff_ne.mpr c6;have c6b1:=bne_iff_ne.mpr c6;obtain rfl:=Option.some.inj H;obtain⟨Ao11,co11,eo11⟩:=Kd.V_slice HO_0.out;subst eo11;have p162:0≤((ji3):Int):=dQ;have q162:(ji3)< (x0_1.length:Int):=dQ;obtain⟨ad162,e162,hx162_0⟩:=Kd.at_int (Kd.V_reads' HO_0.out).2.2 (ji3) p162 q162;cases e162;replace p162:=eq_true p162;replace q162:=eq_true q162;go_wp2
     go_ret;exact⟨_,by first|rfl| (simp[errW_none,errW_some] <;>rfl) | (simp only[←hji3];first|rfl| (simp[errW_none,errW_some] <;>rfl)) | (simp[*,errW_none,errW_some] <;>rfl),vX (h:=HO_0.out),bQ⟩
   ·rw[if_neg c2]at H;have c2b0:=decide_eq_false c2;have c2b1:decide (0< x0_1.length)=false:=decide_eq_false (by omega);clear c2;obtain rfl:=Option.some.inj H;obtain⟨Ao12,co12,eo12⟩:=Kd.V_slice HO_0.out;subst eo12;go_wp2
    go_ret;exact⟨_,eQ,vX (h:=HO_0.out),bQ⟩
end Go.Proofs.YtjjbondlcjnaiaaDoor.PSparseJoined
