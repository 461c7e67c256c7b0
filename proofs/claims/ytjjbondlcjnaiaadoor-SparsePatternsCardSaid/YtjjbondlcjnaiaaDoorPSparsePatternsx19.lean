-- written by a program of this session, after the kit's print
import Derived.Test.YtjjbondlcjnaiaaDoorPSparsePatternsx17
import Derived.Test.YtjjbondlcjnaiaaDoorPSparsePatternsx18
namespace Go.Proofs.YtjjbondlcjnaiaaDoor.PSparsePatterns
open Go.RowKit Go.Proofs.YtjjbondlcjnaiaaDoorW.PrintWords Go.Proofs.YtjjbondlcjnaiaaDoorW.PrintLast Go.Proofs.YtjjbondlcjnaiaaDoorW.PrintMore
set_option maxHeartbeats 8000000
set_option maxRecDepth 100000
attribute [local go_sem] max2_int min2_int max_two min_two max_three min_three max_four min_four
set_option linter.unusedVariables false
set_option linter.unusedSimpArgs false
def fluxionref14_Same.l0:Nat→List (List (S42))→List (List (S42))→Int→Option (Bool)
 |0,_,_,_=>none
 |k+1,x0,x1,x5=>if x5< (x0.length:Int)then(if 0≤x5 then(if x5< (x1.length:Int)then((fluxionref11_Numbers.f k (rd_L8 x0 x5) (rd_L8 x1 x5)).bind fun t552=>(if t552=true then(fluxionref14_Same.l0 k x0 x1 (wrap64 (x5+1)))else(some false)))else(none))else(none))else(some true)
def fluxionref14_Same.f(k:Nat)(l0:List (List (S42)))(l1:List (List (S42))):Option (Bool):=if(l0.length:Int)=(l1.length:Int)then(fluxionref14_Same.l0 k l0 l1 0)else(some false)
def fluxionref14_Same.T6:Bool×List (List Nat×List Nat):=(true,[([],[]),([],[]),([0,1],[0,1]),([2],[2]),([],[]),([],[]),([4,5],[4,5]),([6],[6]),([3,7],[3,7]),([8],[8])])
def fluxionref14_Same.B6:List Nat:= [0,0,3,7,0,0,48,112,255,511]
theorem fluxionref14_Same.tab6:rtab .any (opsOf Tryd.f24 6)=fluxionref14_Same.T6:=by kernel_rfl
theorem fluxionref14_Same.bits6:waitsOk fluxionref14_Same.T6.2 fluxionref14_Same.B6=true:=by kernel_rfl
theorem fluxionref14_Same.calls(k:Nat)(A0:Option Addr)(c0:Nat)(l0:List (List (S42)))(A1:Option Addr)(c1:Nat)(l1:List (List (S42)))(r:Bool)(w:World)(hr0:Kd.C (Kd.slice 42 k42) w A0 l0.length l0)(hc0:l0.length≤c0)(hr1:Kd.C (Kd.slice 42 k42) w A1 l1.length l1)(hc1:l1.length≤c1)(h:fluxionref14_Same.f k l0 l1=some r):
  Calls Tryd.prog 24 #[.slice A0 l0.length c0,.slice A1 l1.length c1] w fun e w'=>e= .returned (.bool r)∧Below w.heap.size w w':=by
 have HR0:=Aside0.mk hr0;have HC0:=Aside0.mk hc0;clear hr0 hc0;have HR1:=Aside0.mk hr1;have HC1:=Aside0.mk hc1;clear hr1 hc1;have HB:=Aside0.mk (Below.refl w.heap.size w);have H:=h;clear h;unfold fluxionref14_Same.f at H;by_cases c3:(l0.length:Int)=(l1.length:Int)
 ·rw[if_pos c3]at H;have c3b0:=beq_iff_eq.mpr c3;have c3b1:=bne_eq_false_iff_eq.mpr c3;have c3b2:(l0.length==l1.length)=true:=by first|simpa using c3| (simp at c3 ⊢;omega)
  clear c3;have H':=Aside0.mk H;clear H;go_enter Tryd.func24,Tryd.ntmps24
  go_wp2
  go_loopg [5] k (fun kq v5 w'=> ∃ (x5_1:Int),v5= .int .i64 x5_1∧Aside0 (fluxionref14_Same.l0 kq l0 l1 x5_1=some r)∧Aside0 (kq≤k)∧Aside0 (Below w.heap.size w w'))
  case atStart=>exact⟨(0),eS,H',⟨Nat.le_refl _⟩,⟨bQ⟩⟩
  case round=>
   clear H';(try clear c1);(try clear c2);(try clear p2);(try clear c3);(try clear c3b0);(try clear c3b1);(try clear c3b2);obtain⟨x5_1,rfl,HA,HK1,HB⟩:=hrel;cases gk with
   |zero=>exact absurd HA.out (by simp[fluxionref14_Same.l0])
   |succ k1=>
    have H:=HA.out;clear HA;simp only[fluxionref14_Same.l0]at H;by_cases c4:x5_1< (l0.length:Int)
    ·rw[if_pos c4]at H;have c4b0:=decide_eq_true c4;clear c4;replace H:=iN H;obtain⟨c5,H⟩:=H;have c5b0:=decide_eq_true c5;clear c5;replace H:=iN H;obtain⟨c6,H⟩:=H;have c6b0:=decide_eq_true c6;clear c6;obtain⟨t552,A7,H⟩:=bO H;(try dsimp only at H);by_cases c8:t552=true
     ·subst c8;rw[if_pos rfl]at H;have H':=Aside0.mk H;clear H;(try go_wp2);replace HB:=Aside0.mk (below_drew1 HB.out);have p550:0≤(x5_1:Int):=dQ;have q550:x5_1< (l0.length:Int):=dQ;obtain⟨ad550,A550_0,c550_0,e550,hx550_0,hl550_0,hi550_0⟩:=at_L8 HR0.out x5_1 p550 q550;have hw550_0:=hx550_0;cases e550;replace hx550_0:=cE HB.out hx550_0;have HR550_0:=Aside0.mk hi550_0;have HC550_0:=Aside0.mk hl550_0;clear hi550_0 hl550_0;replace p550:=eq_true p550;replace q550:=eq_true q550;have p551:0≤(x5_1:Int):=dQ;have q551:x5_1< (l1.length:Int):=dQ;obtain⟨ad551,A551_0,c551_0,e551,hx551_0,hl551_0,hi551_0⟩:=at_L8 HR1.out x5_1 p551 q551;have hw551_0:=hx551_0;cases e551;replace hx551_0:=cE HB.out hx551_0;have HR551_0:=Aside0.mk hi551_0;have HC551_0:=Aside0.mk hl551_0;clear hi551_0 hl551_0;replace p551:=eq_true p551;replace q551:=eq_true q551;refine start_ (n:=10) (S:=fun w'=>w'.cell? (ad550.add (x5_1).toNat)=some (.slice A550_0 (rd_L8 l0 x5_1).length c550_0)∧w'.cell? (ad551.add (x5_1).toNat)=some (.slice A551_0 (rd_L8 l1 x5_1).length c551_0)) (ds:= []) (M_ 10 0) (by kernel_rfl) rfl (by kernel_rfl) ⟨(cE HB.out hw550_0),(cE HB.out hw551_0)⟩ (fun hHeld=>?_);refine with_tabW fluxionref14_Same.tab6 fluxionref14_Same.bits6 (fun HT_ HW_=>?_);generalize wr.drew=w9 at HB HR550_0 HR551_0 hx550_0 hx551_0 hHeld ⊢;refine pu_ 0 (some 17) (M_ 10 1) ?_;refine pu_ 1 (some 18) (M_ 10 3) ?_;refine pu_ 2 (some 19) (M_ 10 7) ?_;refine pu_ 4 (some 21) (M_ 10 23) ?_;refine pu_ 5 (some 22) (M_ 10 55) ?_;refine pu_ 6 (some 23) (M_ 10 119) ?_;refine ta_ 3 (some 20) (M_ 10 127) hHeld ?_;refine ta_ 7 (some 24) (M_ 10 255) hHeld ?_;refine one_ (i:=8) (N:=some 25) (M_ 10 511) rfl rfl (one_of HT_.out (by kernel_rfl)) (by decide) (fun K hK=>?_);refine goes_ Tryd.func45 (by kernel_rfl) rfl #[.slice A550_0 (rd_L8 l0 x5_1).length c550_0,.slice A551_0 (rd_L8 l1 x5_1).length c551_0] (by rfl) rfl rfl mQ ?_;(with_reducible refine(fluxionref11_Numbers.calls k1 _ _ (rd_L8 l0 x5_1) _ _ (rd_L8 l1 x5_1) true _ (cbQ HR550_0 HB) HC550_0.out (cbQ HR551_0 HB) HC551_0.out A7.out).mono ?_);rintro e w10 ⟨rfl,hb⟩;refine⟨_,rfl,?_⟩;replace HB:=Aside0.mk (below_step bQ hb);(try clear hb);(try clear hb2);(try clear hk);(try clear hi);refine hK.out _ _ ⟨(cE HB.out hw550_0),(cE HB.out hw551_0)⟩ (fun hHeld=>?_);clear hK K;refine no_ 25 ?_;refine pu_ 9 (some 26) (M_ 10 1023) ?_;refine done_ (done_of HT_.out (by kernel_rfl)) ?_;(try go_wp2);go_roundg k1
      case measure=>have:=HK1.out;omega
      case rel=>exact⟨(wrap64 (x5_1+1)),eS,H',⟨by have:=HK1.out;omega⟩,⟨bQ⟩⟩
     ·replace c8:=Bool.eq_false_iff.mpr c8;subst c8;rw[if_neg nF]at H;obtain rfl:=Option.some.inj H;(try go_wp2);replace HB:=Aside0.mk (below_drew1 HB.out);have p550:0≤(x5_1:Int):=dQ;have q550:x5_1< (l0.length:Int):=dQ;obtain⟨ad550,A550_0,c550_0,e550,hx550_0,hl550_0,hi550_0⟩:=at_L8 HR0.out x5_1 p550 q550;have hw550_0:=hx550_0;cases e550;replace hx550_0:=cE HB.out hx550_0;have HR550_0:=Aside0.mk hi550_0;have HC550_0:=Aside0.mk hl550_0;clear hi550_0 hl550_0;replace p550:=eq_true p550;replace q550:=eq_true q550;have p551:0≤(x5_1:Int):=dQ;have q551:x5_1< (l1.length:Int):=dQ;obtain⟨ad551,A551_0,c551_0,e551,hx551_0,hl551_0,hi551_0⟩:=at_L8 HR1.out x5_1 p551 q551;have hw551_0:=hx551_0;cases e551;replace hx551_0:=cE HB.out hx551_0;have HR551_0:=Aside0.mk hi551_0;have HC551_0:=Aside0.mk hl551_0;clear hi551_0 hl551_0;replace p551:=eq_true p551;replace q551:=eq_true q551;refine start_ (n:=10) (S:=fun w'=>w'.cell? (ad550.add (x5_1).toNat)=some (.slice A550_0 (rd_L8 l0 x5_1).length c550_0)∧w'.cell? (ad551.add (x5_1).toNat)=some (.slice A551_0 (rd_L8 l1 x5_1).length c551_0)) (ds:= []) (M_ 10 0) (by kernel_rfl) rfl (by kernel_rfl) ⟨(cE HB.out hw550_0),(cE HB.out hw551_0)⟩ (fun hHeld=>?_);refine with_tabW fluxionref14_Same.tab6 fluxionref14_Same.bits6 (fun HT_ HW_=>?_);generalize wr.drew=w11 at HB HR550_0 HR551_0 hx550_0 hx551_0 hHeld ⊢;refine pu_ 0 (some 17) (M_ 10 1) ?_;refine pu_ 1 (some 18) (M_ 10 3) ?_;refine pu_ 2 (some 19) (M_ 10 7) ?_;refine pu_ 4 (some 21) (M_ 10 23) ?_;refine pu_ 5 (some 22) (M_ 10 55) ?_;refine pu_ 6 (some 23) (M_ 10 119) ?_;refine ta_ 3 (some 20) (M_ 10 127) hHeld ?_;refine ta_ 7 (some 24) (M_ 10 255) hHeld ?_;refine one_ (i:=8) (N:=some 25) (M_ 10 511) rfl rfl (one_of HT_.out (by kernel_rfl)) (by decide) (fun K hK=>?_);refine goes_ Tryd.func45 (by kernel_rfl) rfl #[.slice A550_0 (rd_L8 l0 x5_1).length c550_0,.slice A551_0 (rd_L8 l1 x5_1).length c551_0] (by rfl) rfl rfl mQ ?_;(with_reducible refine(fluxionref11_Numbers.calls k1 _ _ (rd_L8 l0 x5_1) _ _ (rd_L8 l1 x5_1) false _ (cbQ HR550_0 HB) HC550_0.out (cbQ HR551_0 HB) HC551_0.out A7.out).mono ?_);rintro e w12 ⟨rfl,hb⟩;refine⟨_,rfl,?_⟩;replace HB:=Aside0.mk (below_step bQ hb);(try clear hb);(try clear hb2);(try clear hk);(try clear hi);refine hK.out _ _ ⟨(cE HB.out hw550_0),(cE HB.out hw551_0)⟩ (fun hHeld=>?_);clear hK K;refine no_ 25 ?_;refine pu_ 9 (some 26) (M_ 10 1023) ?_;refine done_ (done_of HT_.out (by kernel_rfl)) ?_;(try go_wp2);go_ret;exact⟨eQ,bQ⟩
    ·rw[if_neg c4]at H;have c4b0:=decide_eq_false c4;clear c4;obtain rfl:=Option.some.inj H;go_wp2
     go_ret;exact⟨eQ,bQ⟩
 ·rw[if_neg c3]at H;have c3b0:=beq_eq_false_iff_ne.mpr c3;have c3b1:=bne_iff_ne.mpr c3;have c3b2:(l0.length==l1.length)=false:=by first|simpa using c3| (simp at c3 ⊢;omega)
  obtain rfl:=Option.some.inj H;go_enter Tryd.func24,Tryd.ntmps24
  go_wp2
  go_ret;exact⟨eQ,bQ⟩
def SAMPLE:List (List Bool):= [[true,true,false,false],[false,true,true,false],[false,false,true,true]]
theorem ev1:fluxionlaw19_sample.f=some SAMPLE:=by kernel_rfl
theorem ev2:sparse_Colours.f SAMPLE 4=some ([0,1,0,1],0):=by kernel_rfl
theorem ev3:sparse_Widest.f 20 SAMPLE 4=some (2,0):=by kernel_rfl
theorem ev4:sparse_Fits.f SAMPLE 4 [0,0,1,2] =some (false,0):=by kernel_rfl
theorem ev5:fluxionref02_Of.f 40 1 1=some (0,false,[1],[1]):=by kernel_rfl
theorem ev6:fluxionref02_Of.f 40 0 1=some (0,false,[],[1]):=by kernel_rfl
theorem ev7:sparse_Seeds.f 40 [0,1,0,1] =some ([[⟨0,false,[1],[1]⟩,⟨0,false,[],[1]⟩,⟨0,false,[1],[1]⟩,⟨0,false,[],[1]⟩],[⟨0,false,[],[1]⟩,⟨0,false,[1],[1]⟩,⟨0,false,[],[1]⟩,⟨0,false,[1],[1]⟩]],0):=by kernel_rfl
theorem ev8:fluxionref08_Ints.f 20 [0,1,0,1] [0,1,0,1] =some true:=by kernel_rfl
theorem ev9:fluxionref14_Same.f 40 [[⟨0,false,[1],[1]⟩,⟨0,false,[],[1]⟩,⟨0,false,[1],[1]⟩,⟨0,false,[],[1]⟩],[⟨0,false,[],[1]⟩,⟨0,false,[1],[1]⟩,⟨0,false,[],[1]⟩,⟨0,false,[1],[1]⟩]] [[⟨0,false,[1],[1]⟩,⟨0,false,[],[1]⟩,⟨0,false,[1],[1]⟩,⟨0,false,[],[1]⟩],[⟨0,false,[],[1]⟩,⟨0,false,[1],[1]⟩,⟨0,false,[],[1]⟩,⟨0,false,[1],[1]⟩]] =some true:=by kernel_rfl
theorem lit4_reads(w:World)(a b c d:Int):Kd.C (Kd.int .i64) (w.alloc (.cells #[.int .i64 a,.int .i64 b,.int .i64 c,.int .i64 d] 3 (0,0))) (some ⟨w.heap.size,0,none⟩) 4 [a,b,c,d] :=by
 refine⟨rfl,by omega,fun _=>⟨_,rfl,fun j p hj=>⟨[.int .i64 p],rfl,rfl,fun i u hi=>?_⟩⟩⟩;have e:i=0:=by
  have:=(List.getElem?_eq_some_iff.1 hi).1
  simp at this
  exact this
 subst e;have hu:u= .int .i64 p:=by simpa using hi.symm
 subst hu
 match j,hj with
 |0,hj=>cases hj;first| (go_simp;done) | (go_simp;rfl)
 |1,hj=>cases hj;first| (go_simp;done) | (go_simp;rfl)
 |2,hj=>cases hj;first| (go_simp;done) | (go_simp;rfl)
 |3,hj=>cases hj;first| (go_simp;done) | (go_simp;rfl)
 |j+4,hj=>simp at hj
theorem rats4_reads(W:World)(x0 x1 x2 x3:S42)(a0 b0 c0 d0 a1 b1 c1 d1 a2 b2 c2 d2 a3 b3 c3 d3:Value)(h0:k42.K W x0 [a0,b0,c0,d0])(h1:k42.K W x1 [a1,b1,c1,d1])(h2:k42.K W x2 [a2,b2,c2,d2])(h3:k42.K W x3 [a3,b3,c3,d3]):
  Kd.C k42 (W.alloc (.cells #[a0,b0,c0,d0,a1,b1,c1,d1,a2,b2,c2,d2,a3,b3,c3,d3] 42 (0,0))) (some ⟨W.heap.size,0,none⟩) 4 [x0,x1,x2,x3] :=by
 have hb:=below_alloc (Below.refl W.heap.size W) (.cells #[a0,b0,c0,d0,a1,b1,c1,d1,a2,b2,c2,d2,a3,b3,c3,d3] 42 (0,0));refine⟨rfl,by omega,fun _=>⟨_,rfl,fun j p hj=>?_⟩⟩;have key: ∀ (q:Nat) (cs:List Value),cs.length=4→(∀i u,cs[i]? =some u→ #[a0,b0,c0,d0,a1,b1,c1,d1,a2,b2,c2,d2,a3,b3,c3,d3][q * 4+i]? =some u)→ ∀i u,cs[i]? =some u→(W.alloc (.cells #[a0,b0,c0,d0,a1,b1,c1,d1,a2,b2,c2,d2,a3,b3,c3,d3] 42 (0,0))).cell? ((⟨W.heap.size,0,none⟩:Addr).add (q * 4+i))=some u:=by
  intro q cs _ h i u hi;rw[add_plain,World.cell?_alloc_new];exact h i u hi
 match j,hj with
 |0,hj=>cases hj;exact⟨[a0,b0,c0,d0],rfl,k42.K_below hb h0,key 0 _ rfl (fun i u hi=>by match i,hi with|0,hi=>exact hi|1,hi=>exact hi|2,hi=>exact hi|3,hi=>exact hi)⟩
 |1,hj=>cases hj;exact⟨[a1,b1,c1,d1],rfl,k42.K_below hb h1,key 1 _ rfl (fun i u hi=>by match i,hi with|0,hi=>exact hi|1,hi=>exact hi|2,hi=>exact hi|3,hi=>exact hi)⟩
 |2,hj=>cases hj;exact⟨[a2,b2,c2,d2],rfl,k42.K_below hb h2,key 2 _ rfl (fun i u hi=>by match i,hi with|0,hi=>exact hi|1,hi=>exact hi|2,hi=>exact hi|3,hi=>exact hi)⟩
 |3,hj=>cases hj;exact⟨[a3,b3,c3,d3],rfl,k42.K_below hb h3,key 3 _ rfl (fun i u hi=>by match i,hi with|0,hi=>exact hi|1,hi=>exact hi|2,hi=>exact hi|3,hi=>exact hi)⟩
 |j+4,hj=>simp at hj
theorem rows2_reads(W:World)(r0 r1:List S42)(B0 B1:Option Addr)(h0:Kd.C k42 W B0 4 r0)(h1:Kd.C k42 W B1 4 r1):
  Kd.C (Kd.slice 42 k42) (W.alloc (.cells #[.slice B0 4 4,.slice B1 4 4] 63 (0,0))) (some ⟨W.heap.size,0,none⟩) 2 [r0,r1] :=by
 have l0:r0.length=4:=h0.1;have l1:r1.length=4:=h1.1;refine⟨rfl,by omega,fun _=>⟨_,rfl,fun j p hj=>?_⟩⟩
 match j,hj with
 |0,hj=>cases hj;exact⟨[.slice B0 4 4],rfl,⟨B0,4,by rw[l0],by omega,by rw[l0];exact Kd.C_alloc h0 _⟩,fun i u hi=>by match i,hi with|0,hi=>(cases hi;rw[add_plain,World.cell?_alloc_new];rfl)⟩
 |1,hj=>cases hj;exact⟨[.slice B1 4 4],rfl,⟨B1,4,by rw[l1],by omega,by rw[l1];exact Kd.C_alloc h1 _⟩,fun i u hi=>by match i,hi with|0,hi=>(cases hi;rw[add_plain,World.cell?_alloc_new];rfl)⟩
 |j+2,hj=>simp at hj
def fluxionlaw19_alive.f:Option Bool:=some true
theorem fluxionlaw19_alive.calls(r:Bool)(w:World)(h:fluxionlaw19_alive.f=some r):
  Calls Tryd.prog 8 #[] w fun e w'=>e= .returned (.bool r)∧Below w.heap.size w w':=by
 obtain rfl:true=r:=Option.some.inj h;clear h;go_enter Tryd.func8,Tryd.ntmps8
 go_wp2_with fail
 refine(fluxionlaw19_sample.calls SAMPLE _ ev1).mono ?_;rintro e w1 ⟨v1,rfl,hN1,hb1⟩;obtain⟨A1,c1,rfl,hl1,hC1⟩:=Kd.N_reads hN1;have HB1:=Aside0.mk hb1;clear hN1 hb1;go_wp2_with fail
 refine(sparse_Colours.calls _ _ SAMPLE 4 _ _ _ hC1 hl1 ev2).mono ?_;rintro e w2 ⟨v2,rfl,hR2,hb2⟩;obtain⟨A2,c2,rfl,hl2,hC2⟩:=Kd.R_reads hR2;have HB2:=Aside0.mk (HB1.out.trans (hb2.mono HB1.out.size));have HC2:=Aside0.mk hC2;have HL2:=Aside0.mk hl2;clear hR2 hb2 HB1 hC1 hl1 hC2 hl2;go_wp2_with fail
 refine(fluxionlaw19_sample.calls SAMPLE _ ev1).mono ?_;rintro e w3 ⟨v3,rfl,hN3,hb3⟩;obtain⟨A3,c3,rfl,hl3,hC3⟩:=Kd.N_reads hN3;have HB3:=Aside0.mk (HB2.out.trans (hb3.mono HB2.out.size));replace HC2:=Aside0.mk (Kd.C_below HC2.out hb3);clear hN3 hb3 HB2;go_wp2_with fail
 refine(sparse_Widest.calls 20 _ _ SAMPLE 4 _ _ _ hC3 hl3 ev3).mono ?_;rintro e w4 ⟨rfl,hb4⟩;have HB4:=Aside0.mk (HB3.out.trans (hb4.mono HB3.out.size));replace HC2:=Aside0.mk (Kd.C_below HC2.out hb4);clear hb4 HB3 hC3 hl3;go_wp2_with fail
 refine(sparse_Seeds.calls 40 _ _ [0,1,0,1] _ _ _ (lit4_reads _ 0 1 0 1) (Nat.le_refl 4) ev7).mono ?_;rintro e w5 ⟨v5,rfl,hN5,hb5⟩;obtain⟨A5,c5,rfl,hl5,hC5⟩:=Kd.N_reads hN5;replace hb5:=(below_alloc (Below.refl _ _) _).trans (hb5.mono (by simp));have HB5:=Aside0.mk (HB4.out.trans (hb5.mono HB4.out.size));replace HC2:=Aside0.mk (Kd.C_below HC2.out hb5);have HC5:=Aside0.mk hC5;have HL5:=Aside0.mk hl5;clear hN5 hb5 HB4 hC5 hl5;go_wp2_with fail
 refine(fluxionlaw19_sample.calls SAMPLE _ ev1).mono ?_;rintro e w6 ⟨v6,rfl,hN6,hb6⟩;obtain⟨A6,c6,rfl,hl6,hC6⟩:=Kd.N_reads hN6;have HB6:=Aside0.mk (HB5.out.trans (hb6.mono HB5.out.size));replace HC2:=Aside0.mk (Kd.C_below HC2.out hb6);replace HC5:=Aside0.mk (Kd.C_below HC5.out hb6);have HC6:=Aside0.mk hC6;have HL6:=Aside0.mk hl6;clear hN6 hb6 HB5 hC6 hl6;go_wp2_with fail
 refine(sparse_Fits.calls _ _ SAMPLE 4 _ _ [0,0,1,2] _ _ _ (Kd.C_alloc HC6.out _) HL6.out (lit4_reads _ 0 0 1 2) (Nat.le_refl 4) ev4).mono ?_;rintro e w7 ⟨rfl,hb7⟩;replace hb7:=(below_alloc (Below.refl _ _) _).trans (hb7.mono (by simp));have HB7:=Aside0.mk (HB6.out.trans (hb7.mono HB6.out.size));replace HC2:=Aside0.mk (Kd.C_below HC2.out hb7);replace HC5:=Aside0.mk (Kd.C_below HC5.out hb7);clear hb7 HB6 HC6 HL6;go_wp2_with fail
 refine(fluxionref02_Of.calls 40 1 1 _ _ _ _ _ ev5).mono ?_;rintro e w8 ⟨vn,vd,rfl,hn,hd,hb8⟩;obtain⟨An,cn,rfl,hln,hCn⟩:=Kd.R_reads hn;obtain⟨Ad,cd,rfl,hld,hCd⟩:=Kd.R_reads hd;have HB8:=Aside0.mk (HB7.out.trans (hb8.mono HB7.out.size));replace HC2:=Aside0.mk (Kd.C_below HC2.out hb8);replace HC5:=Aside0.mk (Kd.C_below HC5.out hb8);have HCn:=Aside0.mk hCn;have HCd:=Aside0.mk hCd;have HLn:=Aside0.mk hln;have HLd:=Aside0.mk hld;clear hn hd hb8 HB7 hCn hCd hln hld;go_wp2_with fail
 refine(fluxionref02_Of.calls 40 0 1 _ _ _ _ _ ev6).mono ?_;rintro e w9 ⟨vn,vd,rfl,hn,hd,hb9⟩;obtain⟨Am,cm,rfl,hlm,hCm⟩:=Kd.R_reads hn;obtain⟨Ae,ce,rfl,hle,hCe⟩:=Kd.R_reads hd;have HB9:=Aside0.mk (HB8.out.trans (hb9.mono HB8.out.size));replace HC2:=Aside0.mk (Kd.C_below HC2.out hb9);replace HC5:=Aside0.mk (Kd.C_below HC5.out hb9);replace HCn:=Aside0.mk (Kd.C_below HCn.out hb9);replace HCd:=Aside0.mk (Kd.C_below HCd.out hb9);have HCm:=Aside0.mk hCm;have HCe:=Aside0.mk hCe;have HLm:=Aside0.mk hlm;have HLe:=Aside0.mk hle;clear hn hd hb9 HB8 hCm hCe hlm hle;go_wp2_with fail
 refine(fluxionref08_Ints.calls 20 _ _ [0,1,0,1] _ _ [0,1,0,1] true _ (Kd.C_alloc (Kd.C_alloc (Kd.C_alloc HC2.out _) _) _) HL2.out (by simpa using lit4_reads ((w9.alloc (.cells #[.int .i64 0,.bool false,.slice An 1 cn,.slice Ad 1 cd] 42 (0,0))).alloc (.cells #[.int .i64 0,.bool false,.slice Am 0 cm,.slice Ae 1 ce] 42 (0,0))) 0 1 0 1) (Nat.le_refl 4) ev8).mono ?_;rintro e w10 ⟨rfl,⟨nd,rfl⟩⟩;go_wp2_with fail
 obtain⟨W0,hW0⟩: ∃W0:World,W0=((((w9.alloc (.cells #[.int .i64 0,.bool false,.slice An 1 cn,.slice Ad 1 cd] 42 (0,0))).alloc (.cells #[.int .i64 0,.bool false,.slice Am 0 cm,.slice Ae 1 ce] 42 (0,0))).alloc (.cells #[.int .i64 0,.int .i64 1,.int .i64 0,.int .i64 1] 3 (0,0))).drewN nd):=⟨_,rfl⟩;have hsz:W0.heap.size=w9.heap.size+1+1+1:=by rw[hW0];simp
 have hB0:Below w9.heap.size w9 W0:=by rw[hW0];exact pw_below_drewN (below_alloc (below_alloc (below_alloc (Below.refl _ _) _) _) _) _
 have hone:k42.K W0 ⟨0,false,[1],[1]⟩ [.int .i64 0,.bool false,.slice An 1 cn,.slice Ad 1 cd] :=k42_mk W0 ⟨0,false,[1],[1]⟩ HLn.out (Kd.C_below HCn.out hB0) HLd.out (Kd.C_below HCd.out hB0);have hzero:k42.K W0 ⟨0,false,[],[1]⟩ [.int .i64 0,.bool false,.slice Am 0 cm,.slice Ae 1 ce] :=k42_mk W0 ⟨0,false,[],[1]⟩ HLm.out (Kd.C_below HCm.out hB0) HLe.out (Kd.C_below HCe.out hB0);rw[←hW0,←hsz];have HBw:Aside0 (Below w.heap.size w W0):=⟨HB9.out.trans (hB0.mono HB9.out.size)⟩;have hC5:=Kd.C_below HC5.out hB0;clear hB0 hsz HC2 HL2 HCn HCd HCm HCe HLn HLd HLm HLe HB9 HC5;obtain⟨R1,hR1⟩: ∃R1:Array Value,R1= #[.int .i64 0,.bool false,.slice An 1 cn,.slice Ad 1 cd,.int .i64 0,.bool false,.slice Am 0 cm,.slice Ae 1 ce,.int .i64 0,.bool false,.slice An 1 cn,.slice Ad 1 cd,.int .i64 0,.bool false,.slice Am 0 cm,.slice Ae 1 ce] :=⟨_,rfl⟩;have h1:=rats4_reads W0 _ _ _ _ _ _ _ _ _ _ _ _ _ _ _ _ _ _ _ _ hone hzero hone hzero;have hb1:=below_alloc (Below.refl W0.heap.size W0) (.cells R1 42 (0,0));have h2:=rats4_reads (W0.alloc (.cells R1 42 (0,0))) _ _ _ _ _ _ _ _ _ _ _ _ _ _ _ _ _ _ _ _ (k42.K_below hb1 hzero) (k42.K_below hb1 hone) (k42.K_below hb1 hzero) (k42.K_below hb1 hone);rw[←hR1]at h1;rw[←hR1];clear hW0 hone hzero hR1;obtain⟨R2,hR2⟩: ∃R2:Array Value,R2= #[.int .i64 0,.bool false,.slice Am 0 cm,.slice Ae 1 ce,.int .i64 0,.bool false,.slice An 1 cn,.slice Ad 1 cd,.int .i64 0,.bool false,.slice Am 0 cm,.slice Ae 1 ce,.int .i64 0,.bool false,.slice An 1 cn,.slice Ad 1 cd] :=⟨_,rfl⟩;rw[←hR2]at h2;rw[←hR2];clear hR2;have h3:=rows2_reads _ _ _ _ _ (Kd.C_alloc h1 (.cells R2 42 (0,0))) h2;simp only[World.size_alloc]at h3;have hC5':=Kd.C_alloc (Kd.C_alloc (Kd.C_alloc hC5 (.cells R1 42 (0,0))) (.cells R2 42 (0,0))) (.cells #[.slice (some ⟨W0.heap.size,0,none⟩) 4 4,.slice (some ⟨W0.heap.size+1,0,none⟩) 4 4] 63 (0,0));refine(fluxionref14_Same.calls 40 _ _ _ _ _ _ true _ hC5' HL5.out h3 (Nat.le_refl 2) ev9).mono ?_;rintro e w11 ⟨rfl,hb11⟩;have HB11:=Aside0.mk (HBw.out.trans (((below_alloc (below_alloc (below_alloc (Below.refl W0.heap.size W0) _) _) _).trans (hb11.mono (by simp;omega))).mono HBw.out.size));clear hb11 h1 h2 h3 hC5 hC5' hb1;go_wp2_with fail
 go_ret;exact⟨rfl,HB11.out⟩
end Go.Proofs.YtjjbondlcjnaiaaDoor.PSparsePatterns
