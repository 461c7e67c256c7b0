-- written by a program of this session, after the kit's print
import Derived.Test.YtjjbondlcjnaiaaGreatPSparseOwnx0
namespace Go.Proofs.YtjjbondlcjnaiaaGreat.PSparseOwn
open Go.RowKit Go.Proofs.YtjjbondlcjnaiaaGreatW.PrintWords Go.Proofs.YtjjbondlcjnaiaaGreatW.PrintLast Go.Proofs.YtjjbondlcjnaiaaGreatW.PrintMore
set_option maxHeartbeats 8000000
set_option maxRecDepth 100000
attribute [local go_sem] max2_int min2_int max_two min_two max_three min_three max_four min_four
set_option linter.unusedVariables false
set_option linter.unusedSimpArgs false
theorem IndexFunc_LRat.calls(A0:Option Addr)(c0:Nat)(l0:List (List S59))(w:World)(g:Nat)(lb:Array Value)(p:List S59→Bool)
  (eg: ∀args w,(callFunc g args).run Tryz.prog w= .ok (.enter g args) w)
  (hr0:Kd.C (Kd.slice 59 k59) w A0 l0.length l0)
  (hp: ∀ (W:World) (x:List S59) (v:Value),Below w.heap.size w W→Kd.K (Kd.slice 59 k59) W x [v] →x∈l0→FnAny g lb v (p x) W):
  Calls Tryz.prog 64 #[.slice A0 l0.length c0,.func (.func g) #[] lb] w fun e w'=>(∃i:Int,e= .returned (.int .i64 i)∧(decide (0≤i)=l0.any p))∧Below w.heap.size w w':=by
 have HR:=Aside0.mk hr0;have HP:=Aside0.mk hp;have hn:l0.length≤9223372036854775807:=hr0.2.1;clear hr0 hp;go_enter Tryz.func64,Tryz.ntmps64
 go_wp2
 go_loopg [5,8] l0.length (fun gg _ s8 wr=> ∃kk:Nat,kk≤l0.length∧l0.length - kk≤gg∧s8= .int .i64 kk∧Aside0 (Below w.heap.size w wr)∧Aside0 (∀x,x∈l0.take kk→p x=false))
 case atStart=>exact⟨0,Nat.zero_le _,by omega,rfl,⟨Below.refl _ _⟩,⟨by simp⟩⟩
 case round=>
  obtain⟨kk,hkk,hg,rfl,HB,HA⟩:=hrel;by_cases hlt:kk< l0.length
  ·have hltz:(kk:Int)< (l0.length:Int):=by omega
   obtain⟨ad,c,e0,hc1,hK,hc0'⟩:=Kd.C_get (Kd.C_below HR.out HB.out) (([] :List S59):List S59) (kk:Int) (by omega) (by omega);subst e0;obtain⟨v,rfl⟩: ∃v,c= [v] :=by
    match c,(show c.length=1 from hc1)with
    | [v],_=>exact⟨v,rfl⟩
   have hcell:wr.cell? (ad.add kk)=some v:=by
    have:=hc0' 0 v rfl
    rw[show(Kd.slice 59 k59).sz=1 from rfl]at this
    simpa using this
   have hx:l0.getD (Int.toNat kk) (([] :List S59):List S59)=l0[kk] :=by simp[hlt]
   rw[hx]at hK;have hcall:=HP.out wr l0[kk] v HB.out hK (List.getElem_mem _);unfold FnAny at hcall;have HC:=Aside0.mk hcall;clear hcall hc0' hK hx hc1;obtain⟨b,hqq⟩: ∃b,p l0[kk] =b:=⟨_,rfl⟩;rw[hqq]at HC;have Hqq:=Aside0.mk hqq;clear hqq;cases b with
   |true=>
    go_wp2_with fail
    refine HC.out.mono ?_;rintro e w' ⟨rfl,hb⟩;go_wp2_with fail
    go_ret;refine⟨⟨_,rfl,?_⟩,HB.out.trans (hb.mono HB.out.size)⟩;rw[show decide (0≤(kk:Int))=true from by simp];exact(List.any_eq_true.2 ⟨l0[kk],List.getElem_mem _,Hqq.out⟩).symm
   |false=>
    go_wp2_with fail
    refine HC.out.mono ?_;rintro e w' ⟨rfl,hb⟩;go_wp2_with fail
    go_roundg (l0.length - (kk+1))
    case measure=>omega
    case rel=>
     refine⟨kk+1,by omega,by omega,by go_num,⟨HB.out.trans (hb.mono HB.out.size)⟩,⟨fun x hx=>?_⟩⟩;rw[List.take_succ_eq_append_getElem hlt,List.mem_append]at hx;rcases hx with hx|hx
     ·exact HA.out x hx
     ·rw[List.mem_singleton.1 hx];exact Hqq.out
  ·have hltz: ¬ (kk:Int)< (l0.length:Int):=by omega
   have:kk=l0.length:=by omega
   subst this;go_wp2
   go_ret;refine⟨⟨_,rfl,?_⟩,HB.out⟩;rw[List.take_length]at HA;rw[show decide ((0:Int)≤ -1)=false from rfl];exact(List.any_eq_false.2 (fun x hx=>by rw[HA.out x hx];decide)).symm
theorem ContainsFunc_LRat.calls(A0:Option Addr)(c0:Nat)(l0:List (List S59))(w:World)(g:Nat)(lb:Array Value)(p:List S59→Bool)
  (eg: ∀args w,(callFunc g args).run Tryz.prog w= .ok (.enter g args) w)
  (hr0:Kd.C (Kd.slice 59 k59) w A0 l0.length l0)
  (hp: ∀ (W:World) (x:List S59) (v:Value),Below w.heap.size w W→Kd.K (Kd.slice 59 k59) W x [v] →x∈l0→FnAny g lb v (p x) W):
  Calls Tryz.prog 38 #[.slice A0 l0.length c0,.func (.func g) #[] lb] w fun e w'=>e= .returned (.bool (l0.any p))∧Below w.heap.size w w':=by
 have HX:=Aside0.mk (IndexFunc_LRat.calls A0 c0 l0 w g lb p eg hr0 hp);clear eg hr0 hp;go_enter Tryz.func38,Tryz.ntmps38
 go_wp2_with fail
 refine HX.out.mono ?_;rintro e w' ⟨⟨i,rfl,hi⟩,hb⟩;have Hi:=Aside0.mk hi;clear hi HX;go_wp2_with fail
 go_ret;exact⟨by rw[←Hi.out];rfl,hb⟩
def frac_isFault.f(a0:Int):Option (Bool):=if a0=4 then(some true)else(some (a0==11))
theorem frac_isFault.calls(a0:Int)(r:Bool)(w:World)(h:frac_isFault.f a0=some r):
  Calls Tryz.prog 66 #[.int .i64 a0] w fun e w'=>e= .returned (.bool r)∧Drawn0 w w':=by
 have H:=h;clear h;unfold frac_isFault.f at H;by_cases c2:a0=4
 ·rw[if_pos c2]at H;have c2b0:=beq_iff_eq.mpr c2;have c2b1:=bne_eq_false_iff_eq.mpr c2;clear c2;obtain rfl:=Option.some.inj H;go_enter Tryz.func66,Tryz.ntmps66
  go_wp2
  go_ret;exact⟨by first|rfl| (simp;done) | (simp[*];done),by repeat(first|exact Drawn0.refl _|apply Drawn0.step)⟩
 ·rw[if_neg c2]at H;have c2b0:=beq_eq_false_iff_ne.mpr c2;have c2b1:=bne_iff_ne.mpr c2;obtain rfl:=Option.some.inj H;go_enter Tryz.func66,Tryz.ntmps66
  go_wp2
  go_ret;exact⟨by first|rfl| (simp;done) | (simp[*];done),by repeat(first|exact Drawn0.refl _|apply Drawn0.step)⟩
def nat_form.l0:Nat→List (List Int)→Int→Int→Option (Int)
 |0,_,_,_=>none
 |k+1,x5,x6,x7=>if x7< x6 then(if 0≤x7 then(if x7< (x5.length:Int)then(if((rd_L3 x5 x7).length:Int) >512 then(some 3)else(if((rd_L3 x5 x7).length:Int) >0 then(if 0≤(wrap64 (((rd_L3 x5 x7).length:Int) - 1))then(if(wrap64 (((rd_L3 x5 x7).length:Int) - 1))< ((rd_L3 x5 x7).length:Int)then(if(rd (rd_L3 x5 x7) (wrap64 (((rd_L3 x5 x7).length:Int) - 1)))=0 then(some 5)else(nat_form.l0 k x5 x6 (wrap64 (x7+1))))else(none))else(none))else(nat_form.l0 k x5 x6 (wrap64 (x7+1)))))else(none))else(none))else(some 0)
def nat_form.f(k:Nat)(l0:List (List Int)):Option (Int):=nat_form.l0 k l0 (l0.length:Int) 0
theorem nat_form.calls(k:Nat)(A0:Option Addr)(c0:Nat)(l0:List (List Int))(r:Int)(w:World)(hr0:Kd.C (Kd.slice 60 (Kd.int .u32)) w A0 l0.length l0)(hc0:l0.length≤c0)(h:nat_form.f k l0=some r):
  Calls Tryz.prog 87 #[.slice A0 l0.length c0] w fun e w'=>e= .returned (.int .i64 r)∧Drawn0 w w':=by
 have HR0:=Aside0.mk hr0;have HC0:=Aside0.mk hc0;clear hr0 hc0;have H:=h;clear h;unfold nat_form.f at H;have H':=Aside0.mk H;clear H;go_enter Tryz.func87,Tryz.ntmps87
 go_wp2
 go_loopg [7] k (fun kq v7 w'=> ∃ (x7_1:Int),v7= .int .i64 x7_1∧Aside0 (nat_form.l0 kq l0 (l0.length:Int) x7_1=some r)∧Aside0 (kq≤k)∧Drawn0 w w')
 case atStart=>exact⟨(0),eS,H',⟨Nat.le_refl _⟩,by repeat(first|exact Drawn0.refl _|apply Drawn0.step)⟩
 case round=>
  clear H';obtain⟨x7_1,rfl,HA,HK1,⟨m1,rfl⟩⟩:=hrel;cases gk with
  |zero=>exact absurd HA.out (by simp[nat_form.l0])
  |succ k1=>
   have H:=HA.out;clear HA;simp only[nat_form.l0]at H;by_cases c2:x7_1< (l0.length:Int)
   ·rw[if_pos c2]at H;have c2b0:=decide_eq_true c2;clear c2;replace H:=iN H;obtain⟨c3,H⟩:=H;have c3b0:=decide_eq_true c3;clear c3;replace H:=iN H;obtain⟨c4,H⟩:=H;have c4b0:=decide_eq_true c4;clear c4;by_cases c5:((rd_L3 l0 x7_1).length:Int) >512
    ·rw[if_pos c5]at H;have c5b0:=decide_eq_true c5;have c5b1:decide (512< (rd_L3 l0 x7_1).length)=true:=decide_eq_true (by omega);clear c5;obtain rfl:=Option.some.inj H;have p140:0≤(x7_1:Int):=dQ;have q140:x7_1< (l0.length:Int):=dQ;obtain⟨ad140,A140_0,c140_0,e140,hx140_0,hl140_0,hi140_0⟩:=at_L3 HR0.out x7_1 p140 q140;cases e140;have HR140_0:=Aside0.mk hi140_0;have HC140_0:=Aside0.mk hl140_0;clear hi140_0 hl140_0;replace p140:=eq_true p140;replace q140:=eq_true q140;go_wp2
     go_ret;exact⟨by first|rfl| (simp;done) | (simp[*];done),by repeat(first|exact Drawn0.refl _|apply Drawn0.step)⟩
    ·rw[if_neg c5]at H;have c5b0:=decide_eq_false c5;have c5b1:decide (512< (rd_L3 l0 x7_1).length)=false:=decide_eq_false (by omega);clear c5;by_cases c6:((rd_L3 l0 x7_1).length:Int) >0
     ·rw[if_pos c6]at H;have c6b0:=decide_eq_true c6;have c6b1:decide (0< (rd_L3 l0 x7_1).length)=true:=decide_eq_true (by omega);clear c6;obtain⟨ji7,hji7⟩: ∃j_:Int,(wrap64 (((rd_L3 l0 x7_1).length:Int) - 1))=j_:=⟨_,rfl⟩;(first|rw[hji7]at H|simp only[hji7]at H);have hji7w:(IntKind.i64.wrap (((rd_L3 l0 x7_1).length:Int) - 1))=ji7:=(i64_w _).trans hji7;replace H:=iN H;obtain⟨c8,H⟩:=H;have c8b0:=decide_eq_true c8;clear c8;replace H:=iN H;obtain⟨c9,H⟩:=H;have c9b0:=decide_eq_true c9;clear c9;by_cases c10:(rd (rd_L3 l0 x7_1) (ji7))=0
      ·rw[if_pos c10]at H;have c10b0:=beq_iff_eq.mpr c10;have c10b1:=bne_eq_false_iff_eq.mpr c10;clear c10;obtain rfl:=Option.some.inj H;have p140:0≤(x7_1:Int):=dQ;have q140:x7_1< (l0.length:Int):=dQ;obtain⟨ad140,A140_0,c140_0,e140,hx140_0,hl140_0,hi140_0⟩:=at_L3 HR0.out x7_1 p140 q140;cases e140;have HR140_0:=Aside0.mk hi140_0;have HC140_0:=Aside0.mk hl140_0;clear hi140_0 hl140_0;replace p140:=eq_true p140;replace q140:=eq_true q140;have p141:0≤((ji7):Int):=dQ;have q141:(ji7)< ((rd_L3 l0 x7_1).length:Int):=dQ;obtain⟨ad141,e141,hx141_0⟩:=Kd.at_int HR140_0.out (ji7) p141 q141;cases e141;replace p141:=eq_true p141;replace q141:=eq_true q141;go_wp2
       go_ret;exact⟨by first|rfl| (simp;done) | (simp only[←hji7] <;>(first|rfl|simp)) | (simp[*];done),by repeat(first|exact Drawn0.refl _|apply Drawn0.step)⟩
      ·rw[if_neg c10]at H;have c10b0:=beq_eq_false_iff_ne.mpr c10;have c10b1:=bne_iff_ne.mpr c10;have H':=Aside0.mk H;clear H;have p140:0≤(x7_1:Int):=dQ;have q140:x7_1< (l0.length:Int):=dQ;obtain⟨ad140,A140_0,c140_0,e140,hx140_0,hl140_0,hi140_0⟩:=at_L3 HR0.out x7_1 p140 q140;cases e140;have HR140_0:=Aside0.mk hi140_0;have HC140_0:=Aside0.mk hl140_0;clear hi140_0 hl140_0;replace p140:=eq_true p140;replace q140:=eq_true q140;have p141:0≤((ji7):Int):=dQ;have q141:(ji7)< ((rd_L3 l0 x7_1).length:Int):=dQ;obtain⟨ad141,e141,hx141_0⟩:=Kd.at_int HR140_0.out (ji7) p141 q141;cases e141;replace p141:=eq_true p141;replace q141:=eq_true q141;go_wp2
       go_roundg k1
       case measure=>have:=HK1.out;omega
       case rel=>exact⟨(wrap64 (x7_1+1)),eS,H',⟨by have:=HK1.out;omega⟩,by repeat(first|exact Drawn0.refl _|apply Drawn0.step)⟩
     ·rw[if_neg c6]at H;have c6b0:=decide_eq_false c6;have c6b1:decide (0< (rd_L3 l0 x7_1).length)=false:=decide_eq_false (by omega);clear c6;have H':=Aside0.mk H;clear H;have p140:0≤(x7_1:Int):=dQ;have q140:x7_1< (l0.length:Int):=dQ;obtain⟨ad140,A140_0,c140_0,e140,hx140_0,hl140_0,hi140_0⟩:=at_L3 HR0.out x7_1 p140 q140;cases e140;have HR140_0:=Aside0.mk hi140_0;have HC140_0:=Aside0.mk hl140_0;clear hi140_0 hl140_0;replace p140:=eq_true p140;replace q140:=eq_true q140;go_wp2
      go_roundg k1
      case measure=>have:=HK1.out;omega
      case rel=>exact⟨(wrap64 (x7_1+1)),eS,H',⟨by have:=HK1.out;omega⟩,by repeat(first|exact Drawn0.refl _|apply Drawn0.step)⟩
   ·rw[if_neg c2]at H;have c2b0:=decide_eq_false c2;clear c2;obtain rfl:=Option.some.inj H;go_wp2
    go_ret;exact⟨by first|rfl| (simp;done) | (simp[*];done),by repeat(first|exact Drawn0.refl _|apply Drawn0.step)⟩
def nat_IsNat.f(k:Nat)(l0:List Int):Option (Bool):=(nat_form.f k (([l0] :List (List Int)))).bind fun t145=>(some (t145==0))
theorem nat_IsNat.calls(k:Nat)(P0_:Nat→Prop)(A0:Option Addr)(c0:Nat)(l0:List Int)(r:Bool)(w:World)(hs0:Kd.V (Kd.int .u32) 60 w w.heap.size (fun k_=>P0_ k_) (.slice A0 l0.length c0) l0)(h:nat_IsNat.f k l0=some r):
  Calls Tryz.prog 67 #[.slice A0 l0.length c0] w fun e w'=>e= .returned (.bool r)∧Below w.heap.size w w':=by
 have HO0:=Aside0.mk (show Kd.V (Kd.int .u32) 60 w w.heap.size (fun k_=>(P0_ k_∨w.heap.size≤k_)) (.slice A0 l0.length c0) l0 from Kd.V_mono hs0 (fun k_ hk=> .inl hk));have HB:=Aside0.mk (Below.refl w.heap.size w);have H:=h;clear h;unfold nat_IsNat.f at H;obtain⟨y142,hy142⟩: ∃y_:List (List Int),y_=(([l0] :List (List Int))):=⟨_,rfl⟩;(first|replace H:=by_ hy142 H|rw[←hy142]at H);(try dsimp only at H);have Ny142:=Aside0.mk hy142;clear hy142;obtain⟨t145,A2,H⟩:=bO H;(try dsimp only at H);obtain rfl:=Option.some.inj H;go_enter Tryz.func67,Tryz.ntmps67
 go_wp2_with (first| (refine gD 4 ?_;refine Kd.N_lit (Kd.slice 60 (Kd.int .u32)) _ 57 ?hg (N':=4) ?hd (xs:=([l0] :List (List Int))) (inner:= [.slice A0 l0.length c0]) (ok:=(fun k_=>(P0_ k_∨w.heap.size≤k_))) (okp:=(fun k_=>(P0_ k_∨w.heap.size≤k_))) ?hr ?hp (fun _ hk=>hk) ((show∀k_,w.heap.size≤k_→(fun k_=>(P0_ k_∨w.heap.size≤k_)) k_ from fun k_ hk=>(.inr (Nat.le_trans (below_size bQ) hk))) _ (Nat.le_refl _)) (Below.refl _ _) (Nat.le_refl _) (by simp) ?_;(case hd=>rfl);(case hg=>rfl);(case hr=>first| (go_simp;done) | (go_simp;rfl));(case hp=>exact(Reps.one (show Kd.FK (Kd.slice 60 (Kd.int .u32)) _ _ l0 [.slice A0 l0.length c0]from(Kd.FK_slice_mk (Kd.V_reads' (Kd.V_mono (ok':=(fun k_=>(P0_ k_∨w.heap.size≤k_))) (HO0.out) (fun k_ hk=>hk))).2.1 (Kd.V_F (Kd.V_mono (ok':=(fun k_=>(P0_ k_∨w.heap.size≤k_))) (HO0.out) (fun k_ hk=>hk))))) (Reps.none _ _)));intro v143 w3 ho4 hb hg_ hnew_;clear hg_ hnew_;(first|rw[←Ny142.out]at ho4| (simp only[Int.reduceToNat]at ho4;rw[←Ny142.out]at ho4));have HO144:=Aside0.mk (Kd.N_lower ho4 (below_size bQ));replace HO0:=Aside0.mk (Kd.V_elder' (pVQ HO0.out) (Kd.N_base ho4) hb);replace HB:=hsQ hb;clear hb ho4;obtain⟨Ao5,co5,eo5⟩:=Kd.N_slice HO144.out;subst eo5) | (refine gF 87 ?_;refine gl_ (some 5) Tryz.func87 #[.slice Ao5 y142.length co5] ?_;(with_reducible refine(nat_form.calls k _ _ y142 t145 _ (cQ ((Kd.N_reads' HO144.out).2.2)) ((Kd.N_reads' HO144.out).2.1) A2.out).mono ?_);rintro e w' ⟨rfl,⟨nd,rfl⟩⟩;refine⟨_,rfl,?_⟩))
 go_ret;exact⟨eQ,bQ⟩
def bits_Len32.ren:Go.Shelf.Ren:=⟨fun|128=>120|n=>n,fun|51=>60|3=>3|4=>4|46=>64|5=>5|9=>9|n=>n,fun|n=>n⟩
theorem bits_Len32.lays:Go.Proofs.Lays.n128 Tryz.prog bits_Len32.ren:= {
 mixed:=by kernel_rfl
 f128:=Tryz.func120.trans (congrArg some (by kernel_rfl))
 t3:=Tryz.underlying3
 a3:=Tryz.isAgg3
 z3:=Tryz.sizeOf3
 v3:=Tryz.zeroValue3
 t4:=Tryz.underlying4
 a4:=Tryz.isAgg4
 z4:=Tryz.sizeOf4
 v4:=Tryz.zeroValue4
 t5:=Tryz.underlying5
 a5:=Tryz.isAgg5
 z5:=Tryz.sizeOf5
 v5:=Tryz.zeroValue5
 t9:=Tryz.underlying9
 a9:=Tryz.isAgg9
 z9:=Tryz.sizeOf9
 v9:=Tryz.zeroValue9
 t46:=Tryz.underlying64
 a46:=Tryz.isAgg64
 z46:=Tryz.sizeOf64
 v46:=Tryz.zeroValue64
 t51:=Tryz.underlying60
 a51:=Tryz.isAgg60
 z51:=Tryz.sizeOf60
 v51:=Tryz.zeroValue60}
def bits_Len32.f(a0:Int):Option Int:=if 0≤a0 then(if a0≤4294967295 then some (Lib.bitLen a0.toNat:Int)else none)else none
theorem bits_Len32.calls(a0:Int)(r:Int)(w:World)(h:bits_Len32.f a0=some r):
  Calls Tryz.prog 120 #[.int .u32 a0] w fun e w'=>e= .returned (.int .i64 r)∧Drawn0 w w':=by
 unfold bits_Len32.f at h;by_cases h0:0≤a0
 ·by_cases h1:a0≤4294967295
  ·rw[if_pos h0,if_pos h1]at h;cases h;exact(Any.bits_Len32 bits_Len32.lays a0 w h0 h1).mono fun e w' ⟨he,hw⟩=>⟨he,hw▸Drawn0.refl w⟩
  ·rw[if_pos h0,if_neg h1]at h;cases h
 ·rw[if_neg h0]at h;cases h
def nat_size.f(l0:List Int):Option (Int):=if(l0.length:Int)=0 then(some 0)else(if 0≤(wrap64 ((l0.length:Int) - 1))then(if(wrap64 ((l0.length:Int) - 1))< (l0.length:Int)then((bits_Len32.f (rd l0 (wrap64 ((l0.length:Int) - 1)))).bind fun t147=>(some (wrap64 ((wrap64 (32 * (wrap64 ((l0.length:Int) - 1)))) +t147))))else(none))else(none))
theorem nat_size.calls(A0:Option Addr)(c0:Nat)(l0:List Int)(r:Int)(w:World)(hr0:Kd.C (Kd.int .u32) w A0 l0.length l0)(hc0:l0.length≤c0)(h:nat_size.f l0=some r):
  Calls Tryz.prog 109 #[.slice A0 l0.length c0] w fun e w'=>e= .returned (.int .i64 r)∧Drawn0 w w':=by
 have HR0:=Aside0.mk hr0;have HC0:=Aside0.mk hc0;clear hr0 hc0;have H:=h;clear h;unfold nat_size.f at H;by_cases c2:(l0.length:Int)=0
 ·rw[if_pos c2]at H;have c2b0:=beq_iff_eq.mpr c2;have c2b1:=bne_eq_false_iff_eq.mpr c2;clear c2;obtain rfl:=Option.some.inj H;go_enter Tryz.func109,Tryz.ntmps109
  go_wp2
  go_ret;exact⟨by first|rfl| (simp;done) | (simp[*];done),by repeat(first|exact Drawn0.refl _|apply Drawn0.step)⟩
 ·rw[if_neg c2]at H;have c2b0:=beq_eq_false_iff_ne.mpr c2;have c2b1:=bne_iff_ne.mpr c2;have c2b2: ¬ (l0= []):=fun h_=>c2 (by rw[h_];rfl)
  obtain⟨ji3,hji3⟩: ∃j_:Int,(wrap64 ((l0.length:Int) - 1))=j_:=⟨_,rfl⟩;(first|rw[hji3]at H|simp only[hji3]at H);have hji3w:(IntKind.i64.wrap ((l0.length:Int) - 1))=ji3:=(i64_w _).trans hji3;replace H:=iN H;obtain⟨c4,H⟩:=H;have c4b0:=decide_eq_true c4;clear c4;replace H:=iN H;obtain⟨c5,H⟩:=H;have c5b0:=decide_eq_true c5;clear c5;obtain⟨t147,A6,H⟩:=bO H;(try dsimp only at H);obtain rfl:=Option.some.inj H;have p146:0≤((ji3):Int):=dQ;have q146:(ji3)< (l0.length:Int):=dQ;obtain⟨ad146,e146,hx146_0⟩:=Kd.at_int HR0.out (ji3) p146 q146;cases e146;replace p146:=eq_true p146;replace q146:=eq_true q146;go_enter Tryz.func109,Tryz.ntmps109
  go_wp2_with (first| (refine gF 120 ?_;refine goesL_ (some 16) rfl rfl Tryz.func120 (by kernel_rfl) rfl #[.int .u32 (rd l0 (ji3))] rfl (by(try simp only[List.map_toArray,List.map_cons,List.map_nil]);first|done| (simp only[hji3];rfl) |rfl| (simp only[List.length_drop,List.length_take];rfl)) ?_;(with_reducible refine(bits_Len32.calls (rd l0 (ji3)) t147 _ A6.out).mono ?_);rintro e w' ⟨rfl,⟨nd,rfl⟩⟩;refine⟨_,rfl,?_⟩))
  go_ret;exact⟨by first|rfl| (simp;done) | (simp only[←hji3] <;>(first|rfl|simp)) | (simp[*];done),by repeat(first|exact Drawn0.refl _|apply Drawn0.step)⟩
def nat_Bits.f(k:Nat)(l0:List Int):Option (Int×Int):=(nat_form.f k (([l0] :List (List Int)))).bind fun t151=>(if t151=0 then((nat_size.f l0).bind fun t152=>(some (t152,0)))else(some (0,t151)))
theorem nat_Bits.calls(k:Nat)(P0_:Nat→Prop)(A0:Option Addr)(c0:Nat)(l0:List Int)(r1:Int)(r2:Int)(w:World)(hs0:Kd.V (Kd.int .u32) 60 w w.heap.size (fun k_=>P0_ k_) (.slice A0 l0.length c0) l0)(h:nat_Bits.f k l0=some (r1,r2)):
  Calls Tryz.prog 88 #[.slice A0 l0.length c0] w fun e w'=>e= .returned (.tuple #[.int .i64 r1,.int .i64 r2])∧Below w.heap.size w w':=by
 have HO0:=Aside0.mk (show Kd.V (Kd.int .u32) 60 w w.heap.size (fun k_=>(P0_ k_∨w.heap.size≤k_)) (.slice A0 l0.length c0) l0 from Kd.V_mono hs0 (fun k_ hk=> .inl hk));have HB:=Aside0.mk (Below.refl w.heap.size w);have H:=h;clear h;unfold nat_Bits.f at H;obtain⟨y148,hy148⟩: ∃y_:List (List Int),y_=(([l0] :List (List Int))):=⟨_,rfl⟩;(first|replace H:=by_ hy148 H|rw[←hy148]at H);(try dsimp only at H);have Ny148:=Aside0.mk hy148;clear hy148;obtain⟨t151,A2,H⟩:=bO H;(try dsimp only at H);by_cases c3:t151=0
 ·rw[if_pos c3]at H;have c3b0:=beq_iff_eq.mpr c3;have c3b1:=bne_eq_false_iff_eq.mpr c3;clear c3;obtain⟨t152,A4,H⟩:=bO H;(try dsimp only at H);simp only[Option.some.injEq,Prod.mk.injEq]at H;obtain⟨rfl,rfl⟩:=H;go_enter Tryz.func88,Tryz.ntmps88
  go_wp2_with (first| (refine gD 6 ?_;refine Kd.N_lit (Kd.slice 60 (Kd.int .u32)) _ 57 ?hg (N':=6) ?hd (xs:=([l0] :List (List Int))) (inner:= [.slice A0 l0.length c0]) (ok:=(fun k_=>(P0_ k_∨w.heap.size≤k_))) (okp:=(fun k_=>(P0_ k_∨w.heap.size≤k_))) ?hr ?hp (fun _ hk=>hk) ((show∀k_,w.heap.size≤k_→(fun k_=>(P0_ k_∨w.heap.size≤k_)) k_ from fun k_ hk=>(.inr (Nat.le_trans (below_size bQ) hk))) _ (Nat.le_refl _)) (Below.refl _ _) (Nat.le_refl _) (by simp) ?_;(case hd=>rfl);(case hg=>rfl);(case hr=>first| (go_simp;done) | (go_simp;rfl));(case hp=>exact(Reps.one (show Kd.FK (Kd.slice 60 (Kd.int .u32)) _ _ l0 [.slice A0 l0.length c0]from(Kd.FK_slice_mk (Kd.V_reads' (Kd.V_mono (ok':=(fun k_=>(P0_ k_∨w.heap.size≤k_))) (HO0.out) (fun k_ hk=>hk))).2.1 (Kd.V_F (Kd.V_mono (ok':=(fun k_=>(P0_ k_∨w.heap.size≤k_))) (HO0.out) (fun k_ hk=>hk))))) (Reps.none _ _)));intro v149 w5 ho6 hb hg_ hnew_;clear hg_ hnew_;(first|rw[←Ny148.out]at ho6| (simp only[Int.reduceToNat]at ho6;rw[←Ny148.out]at ho6));have HO150:=Aside0.mk (Kd.N_lower ho6 (below_size bQ));replace HO0:=Aside0.mk (Kd.V_elder' (pVQ HO0.out) (Kd.N_base ho6) hb);replace HB:=hsQ hb;clear hb ho6;obtain⟨Ao7,co7,eo7⟩:=Kd.N_slice HO150.out;subst eo7) | (refine gF 87 ?_;refine gl_ (some 7) Tryz.func87 #[.slice Ao7 y148.length co7] ?_;(with_reducible refine(nat_form.calls k _ _ y148 t151 _ (cQ ((Kd.N_reads' HO150.out).2.2)) ((Kd.N_reads' HO150.out).2.1) A2.out).mono ?_);rintro e w' ⟨rfl,⟨nd,rfl⟩⟩;refine⟨_,rfl,?_⟩) | (refine gF 109 ?_;refine gl_ (some 12) Tryz.func109 #[.slice A0 l0.length c0] ?_;(with_reducible refine(nat_size.calls _ _ l0 t152 _ (cQ ((Kd.V_reads' HO0.out).2.2)) ((Kd.V_reads' HO0.out).2.1) A4.out).mono ?_);rintro e w' ⟨rfl,⟨nd,rfl⟩⟩;refine⟨_,rfl,?_⟩))
  go_ret2;exact⟨eQ,bQ⟩
 ·rw[if_neg c3]at H;have c3b0:=beq_eq_false_iff_ne.mpr c3;have c3b1:=bne_iff_ne.mpr c3;simp only[Option.some.injEq,Prod.mk.injEq]at H;obtain⟨rfl,rfl⟩:=H;go_enter Tryz.func88,Tryz.ntmps88
  go_wp2_with (first| (refine gD 6 ?_;refine Kd.N_lit (Kd.slice 60 (Kd.int .u32)) _ 57 ?hg (N':=6) ?hd (xs:=([l0] :List (List Int))) (inner:= [.slice A0 l0.length c0]) (ok:=(fun k_=>(P0_ k_∨w.heap.size≤k_))) (okp:=(fun k_=>(P0_ k_∨w.heap.size≤k_))) ?hr ?hp (fun _ hk=>hk) ((show∀k_,w.heap.size≤k_→(fun k_=>(P0_ k_∨w.heap.size≤k_)) k_ from fun k_ hk=>(.inr (Nat.le_trans (below_size bQ) hk))) _ (Nat.le_refl _)) (Below.refl _ _) (Nat.le_refl _) (by simp) ?_;(case hd=>rfl);(case hg=>rfl);(case hr=>first| (go_simp;done) | (go_simp;rfl));(case hp=>exact(Reps.one (show Kd.FK (Kd.slice 60 (Kd.int .u32)) _ _ l0 [.slice A0 l0.length c0]from(Kd.FK_slice_mk (Kd.V_reads' (Kd.V_mono (ok':=(fun k_=>(P0_ k_∨w.heap.size≤k_))) (HO0.out) (fun k_ hk=>hk))).2.1 (Kd.V_F (Kd.V_mono (ok':=(fun k_=>(P0_ k_∨w.heap.size≤k_))) (HO0.out) (fun k_ hk=>hk))))) (Reps.none _ _)));intro v149 w8 ho9 hb hg_ hnew_;clear hg_ hnew_;(first|rw[←Ny148.out]at ho9| (simp only[Int.reduceToNat]at ho9;rw[←Ny148.out]at ho9));have HO150:=Aside0.mk (Kd.N_lower ho9 (below_size bQ));replace HO0:=Aside0.mk (Kd.V_elder' (pVQ HO0.out) (Kd.N_base ho9) hb);replace HB:=hsQ hb;clear hb ho9;obtain⟨Ao10,co10,eo10⟩:=Kd.N_slice HO150.out;subst eo10) | (refine gF 87 ?_;refine gl_ (some 7) Tryz.func87 #[.slice Ao10 y148.length co10] ?_;(with_reducible refine(nat_form.calls k _ _ y148 t151 _ (cQ ((Kd.N_reads' HO150.out).2.2)) ((Kd.N_reads' HO150.out).2.1) A2.out).mono ?_);rintro e w' ⟨rfl,⟨nd,rfl⟩⟩;refine⟨_,rfl,?_⟩))
  go_ret2;exact⟨eQ,bQ⟩
def frac_long.f(k:Nat)(l0:List Int):Option (Bool):=(nat_Bits.f k l0).bind fun bt153=>(if bt153.2=0 then(some (decide (bt153.1 >4096)))else(some true))
theorem frac_long.calls(k:Nat)(A0:Option Addr)(c0:Nat)(l0:List Int)(r:Bool)(w:World)(hr0:Kd.C (Kd.int .u32) w A0 l0.length l0)(hc0:l0.length≤c0)(h:frac_long.f k l0=some r):
  Calls Tryz.prog 68 #[.slice A0 l0.length c0] w fun e w'=>e= .returned (.bool r)∧Below w.heap.size w w':=by
 have HR0:=Aside0.mk hr0;have HC0:=Aside0.mk hc0;clear hr0 hc0;have HB:=Aside0.mk (Below.refl w.heap.size w);have H:=h;clear h;unfold frac_long.f at H;obtain⟨⟨t153,t154⟩,A2,H⟩:=bO H;(try dsimp only at H);by_cases c3:t154=0
 ·rw[if_pos c3]at H;have c3b0:=beq_iff_eq.mpr c3;have c3b1:=bne_eq_false_iff_eq.mpr c3;clear c3;obtain rfl:=Option.some.inj H;go_enter Tryz.func68,Tryz.ntmps68
  go_wp2_with (first| (refine gF 88 ?_;refine gl_ (some 7) Tryz.func88 #[.slice A0 l0.length c0] ?_;(with_reducible refine(nat_Bits.calls k (fun k_=>k_< w.heap.size) _ _ l0 t153 t154 _ (Kd.V_mk HC0.out (Kd.F_below (Kd.C_F (Kd.heap_int .u32) HR0.out) bQ)) A2.out).mono ?_);rintro e w4 ⟨rfl,hb⟩;refine⟨_,rfl,?_⟩;replace HB:=Aside0.mk (below_step bQ hb);(try clear hb);(try clear hi)))
  go_ret;exact⟨eQ,bQ⟩
 ·rw[if_neg c3]at H;have c3b0:=beq_eq_false_iff_ne.mpr c3;have c3b1:=bne_iff_ne.mpr c3;obtain rfl:=Option.some.inj H;go_enter Tryz.func68,Tryz.ntmps68
  go_wp2_with (first| (refine gF 88 ?_;refine gl_ (some 7) Tryz.func88 #[.slice A0 l0.length c0] ?_;(with_reducible refine(nat_Bits.calls k (fun k_=>k_< w.heap.size) _ _ l0 t153 t154 _ (Kd.V_mk HC0.out (Kd.F_below (Kd.C_F (Kd.heap_int .u32) HR0.out) bQ)) A2.out).mono ?_);rintro e w5 ⟨rfl,hb⟩;refine⟨_,rfl,?_⟩;replace HB:=Aside0.mk (below_step bQ hb);(try clear hb);(try clear hi)))
  go_ret;exact⟨eQ,bQ⟩
def slices_Clone_uint32_uint32.f(l0:List Int):Option (List Int):=if l0.length< 35184372088832 then some l0 else none
theorem slices_Clone_uint32_uint32.calls(A0:Option Addr)(c0:Nat)(l0:List Int)(r:List Int)(w:World)(hr0:Kd.C (Kd.int .u32) w A0 l0.length l0)(hc0:l0.length≤c0)(h:slices_Clone_uint32_uint32.f l0=some r):
  Calls Tryz.prog 44 #[.slice A0 l0.length c0] w fun e w'=> ∃v0_:Value,e= .returned (v0_)∧Kd.R (Kd.int .u32) 60 w' w.heap.size (fun _=>True) v0_ r∧Below w.heap.size w w':=by
 have HR0:=Aside0.mk hr0;clear hc0;unfold slices_Clone_uint32_uint32.f at h;by_cases c1:l0.length< 35184372088832
 ·rw[if_pos c1]at h;cases h;have LM:=Aside0.mk c1;clear c1;have HB:=Aside0.mk (Below.refl w.heap.size w);cases A0 with
  |none=>
   have h0:l0= [] :=by
    rcases l0 with _| ⟨x,l⟩
    ·rfl
    ·obtain⟨ad,e,_⟩:=hr0.2.2 (by simp);cases e
   subst h0;clear hr0;have hn:=Lib.run_eql_slice_nil (P:=Tryz.prog) (w:=w) (t:=57) (e:=60) (a:=none) (n:=0) (c:=c0) (n':=0) (c':=0) Tryz.underlying57;go_enter Tryz.func44,Tryz.ntmps44
   go_wp2_with fail
   go_ret;exact⟨_,rfl,Kd.R_nil _ _ _ _ _,Below.refl _ _⟩
  |some ad=>
   clear hr0;have hn:=Lib.run_eql_slice_nil (P:=Tryz.prog) (w:=w) (t:=57) (e:=60) (a:=some ad) (n:=l0.length) (c:=c0) (n':=0) (c':=0) Tryz.underlying57;go_enter Tryz.func44,Tryz.ntmps44
   go_wp2_with (first
    | (refine gD 5 ?_;refine li_ (Kd.int .u32) 60 5 ([] :List Int) [] (Reps.none _ _) ?_;intro v1 w1 ho hb _ _;have HO:=Aside0.mk ho;have HB:=Aside0.mk hb;clear ho hb)
    | ((with_reducible refine gate_builtin (b:= .append) (xs:= #[.tmp 5,.tmp 6]) rfl ?_);at_builtin;refine Kd.R_append_rows (Kd.int .u32) (w0:=w) w.heap.size rfl (.tmp 5) (.tmp 6) 57 60 (.int .u32 0) 4 rfl Tryz.underlying57 info60 rfl (by decide) (by omega) v1 ([] :List Int) l0 _ _ _ (fun _=>True) (fun _=>False) rfl rfl ?aO ?aR (fun _ _ h=>h) (fun _ h=>h.elim) ?aF ?aB ?aS ?aL ?_;(case aR=>exact Kd.C_below HR0.out HB.out);(case aB=>exact HB.out);(case aF=>exact(fun _ _=>trivial));(case aO=>exact HO.out);(case aS=>exact HB.out.size);(case aL=>have:=LM.out;simp only[List.length_nil];omega);intro v2 w2 ho hb _ _;have HO2:=Aside0.mk ho;have HB2:=Aside0.mk hb;clear ho hb))
   go_ret;exact⟨_,rfl,HO2.out,HB2.out⟩
 ·rw[if_neg c1]at h;cases h
def nat_compare.l0:Nat→List Int→List Int→Int→Option (Int)
 |0,_,_,_=>none
 |k+1,x0,x1,x5=>if x5≥0 then(if 0≤x5 then(if x5< (x0.length:Int)then(if x5< (x1.length:Int)then(if(rd x0 x5)=(rd x1 x5)then(nat_compare.l0 k x0 x1 (wrap64 (x5 - 1)))else(if(rd x0 x5)< (rd x1 x5)then(some (-1))else(some 1)))else(none))else(none))else(none))else(some 0)
def nat_compare.f(k:Nat)(l0:List Int)(l1:List Int):Option (Int):=if(l0.length:Int)< (l1.length:Int)then(some (-1))else(if(l0.length:Int) >(l1.length:Int)then(some 1)else(nat_compare.l0 k l0 l1 (wrap64 ((l0.length:Int) - 1))))
theorem nat_compare.calls(k:Nat)(A0:Option Addr)(c0:Nat)(l0:List Int)(A1:Option Addr)(c1:Nat)(l1:List Int)(r:Int)(w:World)(hr0:Kd.C (Kd.int .u32) w A0 l0.length l0)(hc0:l0.length≤c0)(hr1:Kd.C (Kd.int .u32) w A1 l1.length l1)(hc1:l1.length≤c1)(h:nat_compare.f k l0 l1=some r):
  Calls Tryz.prog 121 #[.slice A0 l0.length c0,.slice A1 l1.length c1] w fun e w'=>e= .returned (.int .i64 r)∧Drawn0 w w':=by
 have HR0:=Aside0.mk hr0;have HC0:=Aside0.mk hc0;clear hr0 hc0;have HR1:=Aside0.mk hr1;have HC1:=Aside0.mk hc1;clear hr1 hc1;have H:=h;clear h;unfold nat_compare.f at H;by_cases c3:(l0.length:Int)< (l1.length:Int)
 ·rw[if_pos c3]at H;have c3b0:=decide_eq_true c3;have c3b1:decide (l0.length< l1.length)=true:=decide_eq_true (Int.ofNat_lt.mp c3);clear c3;obtain rfl:=Option.some.inj H;go_enter Tryz.func121,Tryz.ntmps121
  go_wp2
  repeat(go_quiet (fail);try go_wp2)
  go_ret;exact⟨by first|rfl| (simp;done) | (simp[*];done),by repeat(first|exact Drawn0.refl _|apply Drawn0.step)⟩
 ·rw[if_neg c3]at H;have c3b0:=decide_eq_false c3;have c3b1:decide (l0.length< l1.length)=false:=decide_eq_false (fun h=>c3 (Int.ofNat_lt.mpr h));clear c3;by_cases c4:(l0.length:Int) >(l1.length:Int)
  ·rw[if_pos c4]at H;have c4b0:=decide_eq_true c4;have c4b1:decide (l1.length< l0.length)=true:=decide_eq_true (Int.ofNat_lt.mp c4);clear c4;obtain rfl:=Option.some.inj H;go_enter Tryz.func121,Tryz.ntmps121
   go_wp2
   repeat(go_quiet (fail);try go_wp2)
   go_ret;exact⟨by first|rfl| (simp;done) | (simp[*];done),by repeat(first|exact Drawn0.refl _|apply Drawn0.step)⟩
  ·rw[if_neg c4]at H;have c4b0:=decide_eq_false c4;have c4b1:decide (l1.length< l0.length)=false:=decide_eq_false (fun h=>c4 (Int.ofNat_lt.mpr h));clear c4;have H':=Aside0.mk H;clear H;go_enter Tryz.func121,Tryz.ntmps121
   go_wp2
   repeat(go_quiet (fail);try go_wp2)
   go_loopg [5] k (fun kq v5 w'=> ∃ (x5_1:Int),v5= .int .i64 x5_1∧Aside0 (nat_compare.l0 kq l0 l1 x5_1=some r)∧Aside0 (kq≤k)∧Drawn0 w w')
   case atStart=>exact⟨(wrap64 ((l0.length:Int) - 1)),eS,H',⟨Nat.le_refl _⟩,by repeat(first|exact Drawn0.refl _|apply Drawn0.step)⟩
   case round=>
    clear H';(try clear c1);(try clear p2);(try clear c3);(try clear c3b0);(try clear c3b1);(try clear c4);(try clear c4b0);(try clear c4b1);obtain⟨x5_1,rfl,HA,HK1,⟨m1,rfl⟩⟩:=hrel;cases gk with
    |zero=>exact absurd HA.out (by simp[nat_compare.l0])
    |succ k1=>
     have H:=HA.out;clear HA;simp only[nat_compare.l0]at H;by_cases c5:x5_1≥0
     ·rw[if_pos c5]at H;have c5b0:=decide_eq_true c5;clear c5;replace H:=iN H;obtain⟨c6,H⟩:=H;have c6b0:=decide_eq_true c6;clear c6;replace H:=iN H;obtain⟨c7,H⟩:=H;have c7b0:=decide_eq_true c7;clear c7;replace H:=iN H;obtain⟨c8,H⟩:=H;have c8b0:=decide_eq_true c8;clear c8;by_cases c9:(rd l0 x5_1)=(rd l1 x5_1)
      ·rw[if_pos c9]at H;have c9b0:=beq_iff_eq.mpr c9;have c9b1:=bne_eq_false_iff_eq.mpr c9;clear c9;have H':=Aside0.mk H;clear H;have p155:0≤(x5_1:Int):=dQ;have q155:x5_1< (l0.length:Int):=dQ;obtain⟨ad155,e155,hx155_0⟩:=Kd.at_int HR0.out x5_1 p155 q155;cases e155;replace p155:=eq_true p155;replace q155:=eq_true q155;have p156:0≤(x5_1:Int):=dQ;have q156:x5_1< (l1.length:Int):=dQ;obtain⟨ad156,e156,hx156_0⟩:=Kd.at_int HR1.out x5_1 p156 q156;cases e156;replace p156:=eq_true p156;replace q156:=eq_true q156;go_wp2
       repeat(go_quiet (fail);try go_wp2)
       go_roundg k1
       case measure=>have:=HK1.out;omega
       case rel=>exact⟨(wrap64 (x5_1 - 1)),eS,H',⟨by have:=HK1.out;omega⟩,by repeat(first|exact Drawn0.refl _|apply Drawn0.step)⟩
      ·rw[if_neg c9]at H;have c9b0:=beq_eq_false_iff_ne.mpr c9;have c9b1:=bne_iff_ne.mpr c9;by_cases c10:(rd l0 x5_1)< (rd l1 x5_1)
       ·rw[if_pos c10]at H;have c10b0:=decide_eq_true c10;clear c10;obtain rfl:=Option.some.inj H;have p155:0≤(x5_1:Int):=dQ;have q155:x5_1< (l0.length:Int):=dQ;obtain⟨ad155,e155,hx155_0⟩:=Kd.at_int HR0.out x5_1 p155 q155;cases e155;replace p155:=eq_true p155;replace q155:=eq_true q155;have p156:0≤(x5_1:Int):=dQ;have q156:x5_1< (l1.length:Int):=dQ;obtain⟨ad156,e156,hx156_0⟩:=Kd.at_int HR1.out x5_1 p156 q156;cases e156;replace p156:=eq_true p156;replace q156:=eq_true q156;have p157:0≤(x5_1:Int):=dQ;have q157:x5_1< (l0.length:Int):=dQ;obtain⟨ad157,e157,hx157_0⟩:=Kd.at_int HR0.out x5_1 p157 q157;obtain rfl:ad155=ad157:=(by injection e157);replace p157:=eq_true p157;replace q157:=eq_true q157;have p158:0≤(x5_1:Int):=dQ;have q158:x5_1< (l1.length:Int):=dQ;obtain⟨ad158,e158,hx158_0⟩:=Kd.at_int HR1.out x5_1 p158 q158;obtain rfl:ad156=ad158:=(by injection e158);replace p158:=eq_true p158;replace q158:=eq_true q158;go_wp2
        repeat(go_quiet (fail);try go_wp2)
        go_ret;exact⟨by first|rfl| (simp;done) | (simp[*];done),by repeat(first|exact Drawn0.refl _|apply Drawn0.step)⟩
       ·rw[if_neg c10]at H;have c10b0:=decide_eq_false c10;clear c10;obtain rfl:=Option.some.inj H;have p155:0≤(x5_1:Int):=dQ;have q155:x5_1< (l0.length:Int):=dQ;obtain⟨ad155,e155,hx155_0⟩:=Kd.at_int HR0.out x5_1 p155 q155;cases e155;replace p155:=eq_true p155;replace q155:=eq_true q155;have p156:0≤(x5_1:Int):=dQ;have q156:x5_1< (l1.length:Int):=dQ;obtain⟨ad156,e156,hx156_0⟩:=Kd.at_int HR1.out x5_1 p156 q156;cases e156;replace p156:=eq_true p156;replace q156:=eq_true q156;have p157:0≤(x5_1:Int):=dQ;have q157:x5_1< (l0.length:Int):=dQ;obtain⟨ad157,e157,hx157_0⟩:=Kd.at_int HR0.out x5_1 p157 q157;obtain rfl:ad155=ad157:=(by injection e157);replace p157:=eq_true p157;replace q157:=eq_true q157;have p158:0≤(x5_1:Int):=dQ;have q158:x5_1< (l1.length:Int):=dQ;obtain⟨ad158,e158,hx158_0⟩:=Kd.at_int HR1.out x5_1 p158 q158;obtain rfl:ad156=ad158:=(by injection e158);replace p158:=eq_true p158;replace q158:=eq_true q158;go_wp2
        repeat(go_quiet (fail);try go_wp2)
        go_ret;exact⟨by first|rfl| (simp;done) | (simp[*];done),by repeat(first|exact Drawn0.refl _|apply Drawn0.step)⟩
     ·rw[if_neg c5]at H;have c5b0:=decide_eq_false c5;clear c5;obtain rfl:=Option.some.inj H;go_wp2
      repeat(go_quiet (fail);try go_wp2)
      go_ret;exact⟨by first|rfl| (simp;done) | (simp[*];done),by repeat(first|exact Drawn0.refl _|apply Drawn0.step)⟩
end Go.Proofs.YtjjbondlcjnaiaaGreat.PSparseOwn
