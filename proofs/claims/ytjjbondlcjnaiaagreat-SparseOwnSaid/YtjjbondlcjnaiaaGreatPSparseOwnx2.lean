-- written by a program of this session, after the kit's print
import Derived.Test.YtjjbondlcjnaiaaGreatPSparseOwnx1
namespace Go.Proofs.YtjjbondlcjnaiaaGreat.PSparseOwn
open Go.RowKit Go.Proofs.YtjjbondlcjnaiaaGreatW.PrintWords Go.Proofs.YtjjbondlcjnaiaaGreatW.PrintLast Go.Proofs.YtjjbondlcjnaiaaGreatW.PrintMore
set_option maxHeartbeats 8000000
set_option maxRecDepth 100000
attribute [local go_sem] max2_int min2_int max_two min_two max_three min_three max_four min_four
set_option linter.unusedVariables false
set_option linter.unusedSimpArgs false
def fluxionref11_CutRats.l0:Nat→List (S59)→Int→Int→List (S59)→Int→Option ((List (S59)))
 |0,_,_,_,_,_=>none
 |k+1,x0,x1,x2,x7,x8=>if x8< (x0.length:Int)then(if x8< x1 then(if 0≤x8 then((fluxionref08_CutRat.f ((rd_T59 x0 x8).f0) ((rd_T59 x0 x8).f1) ((rd_T59 x0 x8).f2) ((rd_T59 x0 x8).f3) x2).bind fun bt119=>(if x7.length< 2199023255552 then(fluxionref11_CutRats.l0 k x0 x1 (wrap64 (x2 - bt119.2.2.2.2)) (x7++ [(⟨bt119.1,bt119.2.1,bt119.2.2.1,bt119.2.2.2.1⟩:S59)]) (wrap64 (x8+1)))else(none)))else(none))else(some x7))else(some x7)
def fluxionref11_CutRats.f(k:Nat)(l0:List (S59))(a1:Int)(a2:Int):Option ((List (S59))):=fluxionref11_CutRats.l0 k l0 a1 a2 ([] :List (S59)) 0
theorem fluxionref11_CutRats.calls(k:Nat)(A0:Option Addr)(c0:Nat)(l0:List (S59))(a1:Int)(a2:Int)(r:List (S59))(w:World)(hr0:Kd.C k59 w A0 l0.length l0)(hc0:l0.length≤c0)(h:fluxionref11_CutRats.f k l0 a1 a2=some r):
  Calls Tryz.prog 33 #[.slice A0 l0.length c0,.int .i64 a1,.int .i64 a2] w fun e w'=> ∃v0_:Value,e= .returned (v0_)∧Kd.S k59 59 w' w.heap.size (fun _=>True) v0_ r∧Below w.heap.size w w':=by
 have hu59:=Tryz.underlying59;have HR0:=Aside0.mk hr0;have HC0:=Aside0.mk hc0;clear hr0 hc0;have HB:=Aside0.mk (Below.refl w.heap.size w);have H:=h;clear h;unfold fluxionref11_CutRats.f at H;have H':=Aside0.mk H;clear H;go_enter Tryz.func33,Tryz.ntmps33
 go_wp2
 go_loopg [2,7,8] k (fun kq v2 v7 v8 w'=> ∃ (x2_1:Int) (x7_1:List (S59)) (x8_1:Int),v2= .int .i64 x2_1∧v8= .int .i64 x8_1∧Aside0 (fluxionref11_CutRats.l0 kq l0 a1 x2_1 x7_1 x8_1=some r)∧Aside0 (kq≤k)∧Aside0 (Kd.S k59 59 w' w.heap.size (fun _=>True) v7 x7_1)∧Aside0 (Below w.heap.size w w'))
 case atStart=>exact⟨(a2),(([] :List (S59))),(0),eS,eS,H',⟨Nat.le_refl _⟩,⟨by first|exact Kd.S_nil _ _ _ _ _|exact Kd.N_nil _ _ _ _ _|exact Kd.V_nil _ _ _ _ _|exact Kd.Q_nil _ _ _ _ _|exact Kd.R_nil _ _ _ _ _⟩,⟨bQ⟩⟩
 case round=>
  clear H';(try clear p2);(try clear c3);obtain⟨x2_1,x7_1,x8_1,rfl,rfl,HA,HK1,HO_7,HB⟩:=hrel;cases gk with
  |zero=>exact absurd HA.out (by simp[fluxionref11_CutRats.l0])
  |succ k1=>
   have H:=HA.out;clear HA;simp only[fluxionref11_CutRats.l0]at H;by_cases c4:x8_1< (l0.length:Int)
   ·rw[if_pos c4]at H;have c4b0:=decide_eq_true c4;clear c4;by_cases c5:x8_1< a1
    ·rw[if_pos c5]at H;have c5b0:=decide_eq_true c5;clear c5;replace H:=iN H;obtain⟨c6,H⟩:=H;have c6b0:=decide_eq_true c6;clear c6;obtain⟨⟨t119,t120,t121,t124,t127⟩,A7,H⟩:=bO H;(try dsimp only at H);replace H:=iN H;obtain⟨c8,H⟩:=H;have LMc8:=Aside0.mk c8;clear c8;obtain⟨y129,hy129⟩: ∃y_:List (S59),y_=(x7_1++ [(⟨t119,t120,t121,t124⟩:S59)]):=⟨_,rfl⟩;(first|replace H:=by_ hy129 H|rw[←hy129]at H);(try dsimp only at H);have Ny129:=Aside0.mk hy129;clear hy129;have H':=Aside0.mk H;clear H;have p118:0≤(x8_1:Int):=dQ;have q118:x8_1< (l0.length:Int):=dQ;obtain⟨ad118,A118_2,c118_2,A118_3,c118_3,e118,hx118_0,hx118_1,hx118_2,hx118_3,hl118_2,hi118_2,hl118_3,hi118_3⟩:=at_T59 HR0.out x8_1 p118 q118;cases e118;replace hx118_0:=cE HB.out hx118_0;replace hx118_1:=cE HB.out hx118_1;replace hx118_2:=cE HB.out hx118_2;replace hx118_3:=cE HB.out hx118_3;have HR118_2:=Aside0.mk hi118_2;have HC118_2:=Aside0.mk hl118_2;clear hi118_2 hl118_2;have HR118_3:=Aside0.mk hi118_3;have HC118_3:=Aside0.mk hl118_3;clear hi118_3 hl118_3;replace p118:=eq_true p118;replace q118:=eq_true q118;go_wp2_with (first| (refine gF 59 ?_;refine gl_ (some 28) Tryz.func59 #[.agg #[.int .i64 ((rd_T59 l0 x8_1).f0),.bool ((rd_T59 l0 x8_1).f1),.slice A118_2 ((rd_T59 l0 x8_1).f2).length c118_2,.slice A118_3 ((rd_T59 l0 x8_1).f3).length c118_3],.int .i64 x2_1] ?_;(with_reducible refine(fluxionref08_CutRat.calls ((rd_T59 l0 x8_1).f0) ((rd_T59 l0 x8_1).f1) _ _ ((rd_T59 l0 x8_1).f2) _ _ ((rd_T59 l0 x8_1).f3) x2_1 t119 t120 t121 t124 t127 _ (cbQ HR118_2 HB) HC118_2.out (cbQ HR118_3 HB) HC118_3.out A7.out).mono ?_);rintro e w9 ⟨v122,v125,rfl,ho0,ho1,hb⟩;refine⟨_,rfl,?_⟩;have HO123:=rL w ho0;have HO126:=rL w ho1;replace HO_7:=Aside0.mk (Kd.S_mono (Kd.S_told (Kd.S_told (Kd.S_old (sX (h:=HO_7.out)) hb) (Kd.R_base ho0)) (Kd.R_base ho1)) (fun _ h_=>h_.1));replace HB:=hsQ hb;(try clear hb);(try clear hk);(try clear hi);(try clear ho0);(try clear ho1)) | (refine gD 9 ?_;refine bx_ 9 #[.int .i64 0,.bool false,.slice none 0 0,.slice none 0 0] 59 ?_;intro gb128 hg w10 hbox hb;have BK128:=Aside0.mk hbox;have GW128:=Aside0.mk (gQ w hg);have GE128:=Aside0.mk (gQ w hg);replace HO_7:=Aside0.mk (Kd.S_below (Kd.S_elderB (sX (h:=HO_7.out)) gb128 (Nat.le_of_eq hg.symm)) hb);replace HO123:=rB HO123 hb;replace HO126:=rB HO126 hb;replace HB:=hsQ hb;clear hb hbox hg;obtain⟨_,_,_,_,_,_,_,_⟩:=c4Q BK128.out;obtain⟨Ao12,co12,eo12⟩:=Kd.R_slice HO123.out;subst eo12;obtain⟨Ao13,co13,eo13⟩:=Kd.R_slice HO126.out;subst eo13) | ((with_reducible refine gate_store (t:=59) (p:=9) rfl ?_);refine store_event (t:=59) (p:=9) (v:=?vo_w14) (w1:=((((w10.setCell ⟨gb128,0,none⟩ (.int .i64 t119)).setCell ⟨gb128,1,none⟩ (.bool t120)).setCell ⟨gb128,2,none⟩ (.slice Ao12 t121.length co12)).setCell ⟨gb128,3,none⟩ (.slice Ao13 t124.length co13))) ?hg ?ho ?hn ?hr ?_;(case ho=>rfl);(case hg=>rfl);(case hn=>rfl);(case hr=>first| (go_simp;done) | (go_simp;rfl));intro w14 hw;have n0_:Aside0 (Kd.S k59 59 w14 w.heap.size (fun k_=>some k_≠(.slice Ao12 t121.length co12:Value).ownBlock∧some k_≠(.slice Ao13 t124.length co13:Value).ownBlock∧k_≠gb128) u7 x7_1):=⟨(by rw[hw];exact(sX (h:=Kd.S_mono (Kd.S_far (p:=⟨gb128,3,none⟩) (Kd.S_far (p:=⟨gb128,2,none⟩) (Kd.S_far (p:=⟨gb128,1,none⟩) (Kd.S_far (p:=⟨gb128,0,none⟩) (Kd.S_mono HO_7.out (fun k_ hk=>(⟨hk,hk.2⟩:_∧k_≠gb128))) (fun _ hk=>hk.2) (.int .i64 t119)) (fun _ hk=>hk.2) (.bool t120)) (fun _ hk=>hk.2) (.slice Ao12 t121.length co12)) (fun _ hk=>hk.2) (.slice Ao13 t124.length co13)) (fun _ hk=>⟨hk.1.1.1.2,⟨hk.1.1.2,hk.1.2⟩⟩))))⟩;have n1_:Aside0 (Kd.R (Kd.int .u32) 60 w14 w.heap.size (fun k_=>some k_≠(.slice Ao13 t124.length co13:Value).ownBlock) (.slice Ao12 t121.length co12) t121):=⟨(by rw[hw];exact(rX (h:=Kd.R_mono (rFo (Kd.R_types HO123.out BK128.out (by decide)) (fun _ hk=>hk.2)) (fun _ hk=>hk.1))))⟩;have n2_:Aside0 (Kd.R (Kd.int .u32) 60 w14 w.heap.size (fun k_=>some k_≠(.slice Ao12 t121.length co12:Value).ownBlock) (.slice Ao13 t124.length co13) t124):=⟨(by rw[hw];exact(rX (h:=Kd.R_mono (rFo (Kd.R_types HO126.out BK128.out (by decide)) (fun _ hk=>hk.2)) (fun _ hk=>hk.1))))⟩;have n3_:Aside0 (w14.heap[gb128]? =some (.cells #[.int .i64 t119,.bool t120,.slice Ao12 t121.length co12,.slice Ao13 t124.length co13] 59 (0,0))):=⟨(by rw[hw];exact(bU 3 (h:=bU 2 (h:=bU 1 (h:=bU 0 (h:=bV (h:=BK128.out)))))))⟩;have n4_:Aside0 (Below w.heap.size w w14):=⟨(by rw[hw];exact bQ)⟩;clear hw HO_7 HO123 HO126 BK128 HB;have HO_7:=n0_;have HO123:=n1_;have HO126:=n2_;have BK128:=n3_;have HB:=n4_;clear n0_ n1_ n2_ n3_ n4_;obtain⟨_,_,_,_,_,_,_,_⟩:=c4Q BK128.out) | ((with_reducible refine gate_builtin (b:= .append) (xs:= #[.tmp 34,.tmp 36]) rfl ?_);at_builtin;refine Kd.S_append k59 (w0:=w) w.heap.size rfl (.tmp 34) (.tmp 36) 35 59 (.agg #[(.int .i64 0),(.bool false),(.slice none 0 0),(.slice none 0 0)]) 64 rfl Tryz.underlying35 info59 rfl (by decide) (by omega) u7 x7_1 (⟨t119,t120,t121,t124⟩:S59) [.int .i64 t119,.bool t120,.slice Ao12 t121.length co12,.slice Ao13 t124.length co13] (fun k_=>k_≠gb128) (fun k_=>some k_=(.slice Ao12 t121.length co12:Value).ownBlock∨some k_=(.slice Ao13 t124.length co13:Value).ownBlock) rfl rfl ?aP (fun k_ hk_=>hk_.elim (fun h_=>((Kd.R_mono (ok':=fun k_=>((fun k_=>k_≠gb128)) k_∧some k_≠(u7:Value).ownBlock) (Kd.R_types (Kd.R_apart' (HO123.out) (Kd.S_typed HO_7.out) (by decide)) BK128.out (by decide)) (fun k_ hk=>⟨hk.2,hk.1.2⟩))).1 k_ h_.symm) (fun h_=>((Kd.R_mono (ok':=fun k_=>((fun k_=>k_≠gb128)) k_∧some k_≠(u7:Value).ownBlock) (Kd.R_types (Kd.R_apart' (HO126.out) (Kd.S_typed HO_7.out) (by decide)) BK128.out (by decide)) (fun k_ hk=>⟨hk.2,hk.1.2⟩))).1 k_ h_.symm)) ?aF ?aO ?aB ?aS ?aL ?_;(case aP=>exact k59_mkM _ _ _ (⟨t119,t120,t121,t124⟩:S59) (Kd.R_mono (Kd.R_tight rfl (Kd.R_mono (ok':=fun k_=>((fun k_=>k_≠gb128)) k_∧some k_≠(u7:Value).ownBlock) (Kd.R_types (Kd.R_apart' (HO123.out) (Kd.S_typed HO_7.out) (by decide)) BK128.out (by decide)) (fun k_ hk=>⟨hk.2,hk.1.2⟩))) (fun _ h_=>Or.inl h_)) (Kd.R_mono (Kd.R_tight rfl (Kd.R_mono (ok':=fun k_=>((fun k_=>k_≠gb128)) k_∧some k_≠(u7:Value).ownBlock) (Kd.R_types (Kd.R_apart' (HO126.out) (Kd.S_typed HO_7.out) (by decide)) BK128.out (by decide)) (fun k_ hk=>⟨hk.2,hk.1.2⟩))) (fun _ h_=>Or.inr (h_))));(case aB=>exact bQ);(case aF=>exact(fun k_ hk=>Kd.freshB (kQ BK128.out) k_ hk));(case aO=>exact(sX (h:=Kd.S_mono HO_7.out (fun k_ hk=>⟨hk.2.2,fun e_=>e_.elim (fun h_=>hk.1 h_) (fun h_=>hk.2.1 h_)⟩))));(case aS=>exact(below_size bQ));(case aL=>have:=LMc8.out;omega);intro v130 w16 ho hb hg hat;rw[←Ny129.out]at ho;have n_:=aI (blk_grown (kQ BK128.out) hg (Kd.S_away HO_7.out (fun _ hk=>hk.2.2))) (aI (hb) (Aside0.mk (ho)));clear BK128 HB HO_7 HO123 HO126;obtain⟨BK128,HB,HO131⟩:=n_;clear ho hb hg hat))
     go_roundg k1
     case measure=>have:=HK1.out;omega
     case rel=>exact⟨(wrap64 (x2_1 - t127)),(y129),(wrap64 (x8_1+1)),eS,eS,H',⟨by have:=HK1.out;omega⟩,⟨sX (h:=Kd.S_mono HO131.out (fun _ hk=>trivial))⟩,⟨by repeat(first| (with_reducible first|exact HB.out|apply below_alloc|apply pw_below_drewN|apply below_drew1|refine below_set ?_ GE128.out) |exact HB.out)⟩⟩
    ·rw[if_neg c5]at H;have c5b0:=decide_eq_false c5;clear c5;obtain rfl:=Option.some.inj H;go_wp2
     go_ret;exact⟨_,eQ,sX (h:=HO_7.out),bQ⟩
   ·rw[if_neg c4]at H;have c4b0:=decide_eq_false c4;clear c4;obtain rfl:=Option.some.inj H;go_wp2
    go_ret;exact⟨_,eQ,sX (h:=HO_7.out),bQ⟩
def fluxionref14_CutMatrix.l0:Nat→List (List (S59))→Int→Int→List (List (S59))→Int→Option ((List (List (S59))))
 |0,_,_,_,_,_=>none
 |k+1,x0,x1,x2,x7,x8=>if x8< (x0.length:Int)then(if x8< x1 then(if 0≤x8 then((fluxionref11_CutRats.f k (rd_L5 x0 x8) x2 60).bind fun t133=>(if x7.length< 5864062014805 then(fluxionref14_CutMatrix.l0 k x0 x1 x2 (x7++ [t133]) (wrap64 (x8+1)))else(none)))else(none))else(some x7))else(some x7)
def fluxionref14_CutMatrix.f(k:Nat)(l0:List (List (S59)))(a1:Int)(a2:Int):Option ((List (List (S59)))):=fluxionref14_CutMatrix.l0 k l0 a1 a2 ([] :List (List (S59))) 0
theorem fluxionref14_CutMatrix.calls(k:Nat)(A0:Option Addr)(c0:Nat)(l0:List (List (S59)))(a1:Int)(a2:Int)(r:List (List (S59)))(w:World)(hr0:Kd.C (Kd.slice 59 k59) w A0 l0.length l0)(hc0:l0.length≤c0)(h:fluxionref14_CutMatrix.f k l0 a1 a2=some r):
  Calls Tryz.prog 9 #[.slice A0 l0.length c0,.int .i64 a1,.int .i64 a2] w fun e w'=> ∃v0_:Value,e= .returned (v0_)∧Kd.R (Kd.slice 59 k59) 35 w' w.heap.size (fun _=>True) v0_ r∧Below w.heap.size w w':=by
 have HR0:=Aside0.mk hr0;have HC0:=Aside0.mk hc0;clear hr0 hc0;have HB:=Aside0.mk (Below.refl w.heap.size w);have H:=h;clear h;unfold fluxionref14_CutMatrix.f at H;have H':=Aside0.mk H;clear H;go_enter Tryz.func9,Tryz.ntmps9
 go_wp2
 go_loopg [7,8] k (fun kq v7 v8 w'=> ∃ (x7_1:List (List (S59))) (x8_1:Int),v8= .int .i64 x8_1∧Aside0 (fluxionref14_CutMatrix.l0 kq l0 a1 a2 x7_1 x8_1=some r)∧Aside0 (kq≤k)∧Aside0 (Kd.R (Kd.slice 59 k59) 35 w' w.heap.size (fun _=>True) v7 x7_1)∧Aside0 (Below w.heap.size w w'))
 case atStart=>exact⟨(([] :List (List (S59)))),(0),eS,H',⟨Nat.le_refl _⟩,⟨by first|exact Kd.R_nil _ _ _ _ _|exact Kd.N_nil _ _ _ _ _|exact Kd.V_nil _ _ _ _ _|exact Kd.Q_nil _ _ _ _ _|exact Kd.S_nil _ _ _ _ _⟩,⟨bQ⟩⟩
 case round=>
  clear H';(try clear p2);obtain⟨x7_1,x8_1,rfl,HA,HK1,HO_7,HB⟩:=hrel;cases gk with
  |zero=>exact absurd HA.out (by simp[fluxionref14_CutMatrix.l0])
  |succ k1=>
   have H:=HA.out;clear HA;simp only[fluxionref14_CutMatrix.l0]at H;by_cases c4:x8_1< (l0.length:Int)
   ·rw[if_pos c4]at H;have c4b0:=decide_eq_true c4;clear c4;by_cases c5:x8_1< a1
    ·rw[if_pos c5]at H;have c5b0:=decide_eq_true c5;clear c5;replace H:=iN H;obtain⟨c6,H⟩:=H;have c6b0:=decide_eq_true c6;clear c6;obtain⟨t133,A7,H⟩:=bO H;(try dsimp only at H);replace H:=iN H;obtain⟨c8,H⟩:=H;have LMc8:=Aside0.mk c8;clear c8;obtain⟨y136,hy136⟩: ∃y_:List (List (S59)),y_=(x7_1++ [t133]):=⟨_,rfl⟩;(first|replace H:=by_ hy136 H|rw[←hy136]at H);(try dsimp only at H);have Ny136:=Aside0.mk hy136;clear hy136;have H':=Aside0.mk H;clear H;have p132:0≤(x8_1:Int):=dQ;have q132:x8_1< (l0.length:Int):=dQ;obtain⟨ad132,A132_0,c132_0,e132,hx132_0,hl132_0,hi132_0⟩:=at_L5 HR0.out x8_1 p132 q132;cases e132;replace hx132_0:=cE HB.out hx132_0;have HR132_0:=Aside0.mk hi132_0;have HC132_0:=Aside0.mk hl132_0;clear hi132_0 hl132_0;replace p132:=eq_true p132;replace q132:=eq_true q132;go_wp2_with (first| (refine gF 33 ?_;refine gl_ (some 26) Tryz.func33 #[.slice A132_0 (rd_L5 l0 x8_1).length c132_0,.int .i64 a2,.int .i64 60] ?_;(with_reducible refine(fluxionref11_CutRats.calls k1 _ _ (rd_L5 l0 x8_1) a2 60 t133 _ (cbQ HR132_0 HB) HC132_0.out A7.out).mono ?_);rintro e w9 ⟨v134,rfl,ho0,hb⟩;refine⟨_,rfl,?_⟩;have HO135:=Aside0.mk (Kd.S_lower ho0 (below_size bQ));replace HO_7:=Aside0.mk (Kd.R_elder' (pRQ HO_7.out) (Kd.S_base ho0) hb);replace HB:=hsQ hb;(try clear hb);(try clear hk);(try clear hi);(try clear ho0);obtain⟨Ao11,co11,eo11⟩:=Kd.S_slice HO135.out;subst eo11) | ((with_reducible refine gate_builtin (b:= .append) (xs:= #[.tmp 20,.tmp 27]) rfl ?_);at_builtin;refine Kd.R_append (Kd.slice 59 k59) (w0:=w) w.heap.size rfl (.tmp 20) (.tmp 27) 24 35 (.slice none 0 0) 24 rfl Tryz.underlying24 info35 rfl (by decide) (by omega) u7 x7_1 t133 [.slice Ao11 t133.length co11] (fun _=>True) (fun k_=>((fun _=>True)) k_∧some k_≠(u7:Value).ownBlock) rfl rfl ?aP (fun _ hk=>hk) ?aF ?aO ?aB ?aS ?aL ?_;(case aP=>exact Kd.M_row (Kd.R_mono (Kd.R_apart' ((Kd.S_R HO135.out)) (Kd.R_typed HO_7.out) (by decide)) (fun k_ hk=>⟨trivial,hk.2⟩)));(case aB=>exact bQ);(case aF=>exact(fun _ _=>trivial));(case aO=>exact(rX (h:=Kd.R_mono HO_7.out (fun _ hk=>trivial))));(case aS=>exact(below_size bQ));(case aL=>have:=LMc8.out;omega);intro v137 w10 ho hb hg hat;rw[←Ny136.out]at ho;have HO138:=Aside0.mk ho;replace HB:=Aside0.mk hb;clear HO_7 HO135;clear ho hb hg hat))
     go_roundg k1
     case measure=>have:=HK1.out;omega
     case rel=>exact⟨(y136),(wrap64 (x8_1+1)),eS,H',⟨by have:=HK1.out;omega⟩,⟨rX (h:=HO138.out)⟩,⟨bQ⟩⟩
    ·rw[if_neg c5]at H;have c5b0:=decide_eq_false c5;clear c5;obtain rfl:=Option.some.inj H;go_wp2
     go_ret;exact⟨_,eQ,rX (h:=HO_7.out),bQ⟩
   ·rw[if_neg c4]at H;have c4b0:=decide_eq_false c4;clear c4;obtain rfl:=Option.some.inj H;go_wp2
    go_ret;exact⟨_,eQ,rX (h:=HO_7.out),bQ⟩
theorem IndexFunc_LBool.calls(A0:Option Addr)(c0:Nat)(l0:List (List Bool))(w:World)(g:Nat)(lb:Array Value)(p:List Bool→Bool)
  (eg: ∀args w,(callFunc g args).run Tryz.prog w= .ok (.enter g args) w)
  (hr0:Kd.C (Kd.slice 4 Kd.bool) w A0 l0.length l0)
  (hp: ∀ (W:World) (x:List Bool) (v:Value),Below w.heap.size w W→Kd.K (Kd.slice 4 Kd.bool) W x [v] →x∈l0→FnAny g lb v (p x) W):
  Calls Tryz.prog 85 #[.slice A0 l0.length c0,.func (.func g) #[] lb] w fun e w'=>(∃i:Int,e= .returned (.int .i64 i)∧(decide (0≤i)=l0.any p))∧Below w.heap.size w w':=by
 have HR:=Aside0.mk hr0;have HP:=Aside0.mk hp;have hn:l0.length≤9223372036854775807:=hr0.2.1;clear hr0 hp;go_enter Tryz.func85,Tryz.ntmps85
 go_wp2
 go_loopg [5,8] l0.length (fun gg _ s8 wr=> ∃kk:Nat,kk≤l0.length∧l0.length - kk≤gg∧s8= .int .i64 kk∧Aside0 (Below w.heap.size w wr)∧Aside0 (∀x,x∈l0.take kk→p x=false))
 case atStart=>exact⟨0,Nat.zero_le _,by omega,rfl,⟨Below.refl _ _⟩,⟨by simp⟩⟩
 case round=>
  obtain⟨kk,hkk,hg,rfl,HB,HA⟩:=hrel;by_cases hlt:kk< l0.length
  ·have hltz:(kk:Int)< (l0.length:Int):=by omega
   obtain⟨ad,c,e0,hc1,hK,hc0'⟩:=Kd.C_get (Kd.C_below HR.out HB.out) ([] :List Bool) (kk:Int) (by omega) (by omega);subst e0;obtain⟨v,rfl⟩: ∃v,c= [v] :=by
    match c,(show c.length=1 from hc1)with
    | [v],_=>exact⟨v,rfl⟩
   have hcell:wr.cell? (ad.add kk)=some v:=by
    have:=hc0' 0 v rfl
    rw[show(Kd.slice 4 Kd.bool).sz=1 from rfl]at this
    simpa using this
   have hx:l0.getD (Int.toNat kk) ([] :List Bool)=l0[kk] :=by simp[hlt]
   rw[hx]at hK;have hcall:=HP.out wr l0[kk] v HB.out hK (List.getElem_mem _);unfold FnAny at hcall;have HC:=Aside0.mk hcall;clear hcall hc0' hK hx hc1;obtain⟨b,hqq⟩: ∃b,p l0[kk] =b:=⟨_,rfl⟩;rw[hqq]at HC;have Hqq:=Aside0.mk hqq;clear hqq;cases b with
   |true=>
    go_wp2_with fail
    refine HC.out.mono ?_;rintro e w' ⟨rfl,hb⟩;go_wp2_with fail
    go_ret;refine⟨⟨_,rfl,?_⟩,HB.out.trans (hb.mono HB.out.size)⟩;rw[show decide (0≤(kk:Int))=true from by simp];exact(List.any_eq_true.2 ⟨l0[kk],List.getElem_mem _,Hqq.out⟩).symm
   |false=>
    go_wp2_with fail
    refine HC.out.mono ?_;rintro e w' ⟨rfl,hb⟩;go_wp2_with fail
    go_roundg (l0.length - (kk+1))
    case measure=>omega
    case rel=>
     refine⟨kk+1,by omega,by omega,by go_num,⟨HB.out.trans (hb.mono HB.out.size)⟩,⟨fun x hx=>?_⟩⟩;rw[List.take_succ_eq_append_getElem hlt,List.mem_append]at hx;rcases hx with hx|hx
     ·exact HA.out x hx
     ·rw[List.mem_singleton.1 hx];exact Hqq.out
  ·have hltz: ¬ (kk:Int)< (l0.length:Int):=by omega
   have:kk=l0.length:=by omega
   subst this;go_wp2
   go_ret;refine⟨⟨_,rfl,?_⟩,HB.out⟩;rw[List.take_length]at HA;rw[show decide ((0:Int)≤ -1)=false from rfl];exact(List.any_eq_false.2 (fun x hx=>by rw[HA.out x hx];decide)).symm
theorem ContainsFunc_LBool.calls(A0:Option Addr)(c0:Nat)(l0:List (List Bool))(w:World)(g:Nat)(lb:Array Value)(p:List Bool→Bool)
  (eg: ∀args w,(callFunc g args).run Tryz.prog w= .ok (.enter g args) w)
  (hr0:Kd.C (Kd.slice 4 Kd.bool) w A0 l0.length l0)
  (hp: ∀ (W:World) (x:List Bool) (v:Value),Below w.heap.size w W→Kd.K (Kd.slice 4 Kd.bool) W x [v] →x∈l0→FnAny g lb v (p x) W):
  Calls Tryz.prog 60 #[.slice A0 l0.length c0,.func (.func g) #[] lb] w fun e w'=>e= .returned (.bool (l0.any p))∧Below w.heap.size w w':=by
 have HX:=Aside0.mk (IndexFunc_LBool.calls A0 c0 l0 w g lb p eg hr0 hp);clear eg hr0 hp;go_enter Tryz.func60,Tryz.ntmps60
 go_wp2_with fail
 refine HX.out.mono ?_;rintro e w' ⟨⟨i,rfl,hi⟩,hb⟩;have Hi:=Aside0.mk hi;clear hi HX;go_wp2_with fail
 go_ret;exact⟨by rw[←Hi.out];rfl,hb⟩
theorem sparse_form.enters: ∀args w,(callFunc 61 args).run Tryz.prog w= .ok (.enter 61 args) w:=enters_of Tryz.func61 (by kernel_rfl) rfl
theorem sparse_form.lit(n:Int)(B:Addr)(W:World)(hB:W.cell? B=some (.int .i64 n))(A:Option Addr)(c:Nat)(x:List Bool):FnAny 61 #[.pointer (some B)] (.slice A x.length c) (decide (¬ (x.length:Int)=n)) W:=by
 unfold FnAny;go_enter Tryz.func61,Tryz.ntmps61
 go_wp2_with fail
 go_ret;exact⟨by rw[decide_not];rfl,Below.refl _ _⟩
def sparse_form.f(l0:List (List Bool))(a1:Int):Option Int:=
 if(l0.length:Int) >4096 then some 3 else if a1< 0 then some 2 else if a1 >4096 then some 2 else if l0.any (fun x=>decide (¬ (x.length:Int)=a1))=true then some 2 else some 0
theorem sparse_form.calls(A0:Option Addr)(c0:Nat)(l0:List (List Bool))(a1:Int)(r:Int)(w:World)(hr0:Kd.C (Kd.slice 4 Kd.bool) w A0 l0.length l0)(hc0:l0.length≤c0)(h:sparse_form.f l0 a1=some r):
  Calls Tryz.prog 34 #[.slice A0 l0.length c0,.int .i64 a1] w fun e w'=>e= .returned (.int .i64 r)∧Below w.heap.size w w':=by
 have HR:=Aside0.mk hr0;clear hr0 hc0;unfold sparse_form.f at h;by_cases h1:(l0.length:Int) >4096
 ·rw[if_pos h1]at h;cases h;go_enter Tryz.func34,Tryz.ntmps34
  go_wp2_with fail
  go_ret;exact⟨rfl,by repeat(first|exact Below.refl _ _|apply below_alloc|apply pw_below_drewN|apply below_drew1)⟩
 ·rw[if_neg h1]at h;by_cases h2:a1< 0
  ·rw[if_pos h2]at h;cases h;go_enter Tryz.func34,Tryz.ntmps34
   go_wp2_with fail
   go_ret;exact⟨rfl,by repeat(first|exact Below.refl _ _|apply below_alloc|apply pw_below_drewN|apply below_drew1)⟩
  ·rw[if_neg h2]at h;by_cases h3:a1 >4096
   ·rw[if_pos h3]at h;cases h;go_enter Tryz.func34,Tryz.ntmps34
    go_wp2_with fail
    go_ret;exact⟨rfl,by repeat(first|exact Below.refl _ _|apply below_alloc|apply pw_below_drewN|apply below_drew1)⟩
   ·rw[if_neg h3]at h;obtain⟨b,hb⟩: ∃b,l0.any (fun x=>decide (¬ (x.length:Int)=a1))=b:=⟨_,rfl⟩;rw[hb]at h;have HB:=Aside0.mk hb;clear hb;have HP: ∀W:World,Below (w.alloc (.cells #[.int .i64 a1] 3 (0,0))).heap.size (w.alloc (.cells #[.int .i64 a1] 3 (0,0))) W→W.cell? ⟨w.heap.size,0,none⟩=some (.int .i64 a1):=
     fun W hW=>(hW.cell (p:=⟨w.heap.size,0,none⟩) (by simp)).trans (by go_simp)
    have HP:=Aside0.mk HP;cases b;all_goals
     cases h;go_enter Tryz.func34,Tryz.ntmps34
     go_wp2_with fail
     refine(ContainsFunc_LBool.calls A0 c0 l0 _ 61 _ _ sparse_form.enters (Kd.C_alloc HR.out _) (fun W x v hW hK _=>by obtain⟨A,c,hv,_⟩:=hK;cases hv;exact sparse_form.lit a1 _ W (HP.out W hW) A c x)).mono ?_;rintro e w' ⟨rfl,hb⟩;rw[HB.out];go_wp2_with fail
     go_ret;exact⟨rfl,(below_alloc (Below.refl _ _) _).trans (hb.mono (by simp))⟩
theorem IndexFunc_Int.calls(A0:Option Addr)(c0:Nat)(l0:List (Int))(w:World)(g:Nat)(lb:Array Value)(p:Int→Bool)
  (eg: ∀args w,(callFunc g args).run Tryz.prog w= .ok (.enter g args) w)
  (hr0:Kd.C (Kd.int .i64) w A0 l0.length l0)
  (hp: ∀ (W:World) (x:Int) (v:Value),Below w.heap.size w W→Kd.K (Kd.int .i64) W x [v] →x∈l0→FnAny g lb v (p x) W):
  Calls Tryz.prog 86 #[.slice A0 l0.length c0,.func (.func g) #[] lb] w fun e w'=>(∃i:Int,e= .returned (.int .i64 i)∧(decide (0≤i)=l0.any p))∧Below w.heap.size w w':=by
 have HR:=Aside0.mk hr0;have HP:=Aside0.mk hp;have hn:l0.length≤9223372036854775807:=hr0.2.1;clear hr0 hp;go_enter Tryz.func86,Tryz.ntmps86
 go_wp2
 go_loopg [5,8] l0.length (fun gg _ s8 wr=> ∃kk:Nat,kk≤l0.length∧l0.length - kk≤gg∧s8= .int .i64 kk∧Aside0 (Below w.heap.size w wr)∧Aside0 (∀x,x∈l0.take kk→p x=false))
 case atStart=>exact⟨0,Nat.zero_le _,by omega,rfl,⟨Below.refl _ _⟩,⟨by simp⟩⟩
 case round=>
  obtain⟨kk,hkk,hg,rfl,HB,HA⟩:=hrel;by_cases hlt:kk< l0.length
  ·have hltz:(kk:Int)< (l0.length:Int):=by omega
   obtain⟨ad,c,e0,hc1,hK,hc0'⟩:=Kd.C_get (Kd.C_below HR.out HB.out) (0:Int) (kk:Int) (by omega) (by omega);subst e0;obtain⟨v,rfl⟩: ∃v,c= [v] :=by
    match c,(show c.length=1 from hc1)with
    | [v],_=>exact⟨v,rfl⟩
   have hcell:wr.cell? (ad.add kk)=some v:=by
    have:=hc0' 0 v rfl
    rw[show(Kd.int .i64).sz=1 from rfl]at this
    simpa using this
   have hx:l0.getD (Int.toNat kk) (0:Int)=l0[kk] :=by simp[hlt]
   rw[hx]at hK;have hcall:=HP.out wr l0[kk] v HB.out hK (List.getElem_mem _);unfold FnAny at hcall;have HC:=Aside0.mk hcall;clear hcall hc0' hK hx hc1;obtain⟨b,hqq⟩: ∃b,p l0[kk] =b:=⟨_,rfl⟩;rw[hqq]at HC;have Hqq:=Aside0.mk hqq;clear hqq;cases b with
   |true=>
    go_wp2_with fail
    refine HC.out.mono ?_;rintro e w' ⟨rfl,hb⟩;go_wp2_with fail
    go_ret;refine⟨⟨_,rfl,?_⟩,HB.out.trans (hb.mono HB.out.size)⟩;rw[show decide (0≤(kk:Int))=true from by simp];exact(List.any_eq_true.2 ⟨l0[kk],List.getElem_mem _,Hqq.out⟩).symm
   |false=>
    go_wp2_with fail
    refine HC.out.mono ?_;rintro e w' ⟨rfl,hb⟩;go_wp2_with fail
    go_roundg (l0.length - (kk+1))
    case measure=>omega
    case rel=>
     refine⟨kk+1,by omega,by omega,by go_num,⟨HB.out.trans (hb.mono HB.out.size)⟩,⟨fun x hx=>?_⟩⟩;rw[List.take_succ_eq_append_getElem hlt,List.mem_append]at hx;rcases hx with hx|hx
     ·exact HA.out x hx
     ·rw[List.mem_singleton.1 hx];exact Hqq.out
  ·have hltz: ¬ (kk:Int)< (l0.length:Int):=by omega
   have:kk=l0.length:=by omega
   subst this;go_wp2
   go_ret;refine⟨⟨_,rfl,?_⟩,HB.out⟩;rw[List.take_length]at HA;rw[show decide ((0:Int)≤ -1)=false from rfl];exact(List.any_eq_false.2 (fun x hx=>by rw[HA.out x hx];decide)).symm
theorem ContainsFunc_Int.calls(A0:Option Addr)(c0:Nat)(l0:List (Int))(w:World)(g:Nat)(lb:Array Value)(p:Int→Bool)
  (eg: ∀args w,(callFunc g args).run Tryz.prog w= .ok (.enter g args) w)
  (hr0:Kd.C (Kd.int .i64) w A0 l0.length l0)
  (hp: ∀ (W:World) (x:Int) (v:Value),Below w.heap.size w W→Kd.K (Kd.int .i64) W x [v] →x∈l0→FnAny g lb v (p x) W):
  Calls Tryz.prog 62 #[.slice A0 l0.length c0,.func (.func g) #[] lb] w fun e w'=>e= .returned (.bool (l0.any p))∧Below w.heap.size w w':=by
 have HX:=Aside0.mk (IndexFunc_Int.calls A0 c0 l0 w g lb p eg hr0 hp);clear eg hr0 hp;go_enter Tryz.func62,Tryz.ntmps62
 go_wp2_with fail
 refine HX.out.mono ?_;rintro e w' ⟨⟨i,rfl,hi⟩,hb⟩;have Hi:=Aside0.mk hi;clear hi HX;go_wp2_with fail
 go_ret;exact⟨by rw[←Hi.out];rfl,hb⟩
theorem sparse_painted.enters: ∀args w,(callFunc 63 args).run Tryz.prog w= .ok (.enter 63 args) w:=enters_of Tryz.func63 (by kernel_rfl) rfl
theorem sparse_painted.lit(W:World)(x:Int):FnAny 63 #[] (.int .i64 x) (decide (x< 0)) W:=by
 unfold FnAny;go_enter Tryz.func63,Tryz.ntmps63
 go_wp2_with fail
 go_ret;exact⟨rfl,Below.refl _ _⟩
def sparse_painted.f(a0:Int)(l1:List Int):Option Int:=if¬ (l1.length:Int)=a0 then some 2 else if l1.any (fun x=>decide (x< 0))=true then some 2 else some 0
theorem sparse_painted.calls(a0:Int)(A1:Option Addr)(c1:Nat)(l1:List Int)(r:Int)(w:World)(hr1:Kd.C (Kd.int .i64) w A1 l1.length l1)(hc1:l1.length≤c1)(h:sparse_painted.f a0 l1=some r):
  Calls Tryz.prog 35 #[.int .i64 a0,.slice A1 l1.length c1] w fun e w'=>e= .returned (.int .i64 r)∧Below w.heap.size w w':=by
 have HR:=Aside0.mk hr1;clear hr1 hc1;unfold sparse_painted.f at h;by_cases h1: ¬ (l1.length:Int)=a0
 ·rw[if_pos h1]at h;cases h;have hd:((l1.length:Int) !=a0)=true:=bne_iff_ne.2 h1;clear h1;go_enter Tryz.func35,Tryz.ntmps35
  go_wp2_with fail
  go_ret;exact⟨rfl,by repeat(first|exact Below.refl _ _|apply below_alloc|apply pw_below_drewN|apply below_drew1)⟩
 ·rw[if_neg h1]at h;have hd:((l1.length:Int) !=a0)=false:=bne_eq_false_iff_eq.2 (Decidable.of_not_not h1);clear h1;obtain⟨b,hb⟩: ∃b,l1.any (fun x=>decide (x< 0))=b:=⟨_,rfl⟩;rw[hb]at h;have HB:=Aside0.mk hb;clear hb;cases b;all_goals
   cases h;go_enter Tryz.func35,Tryz.ntmps35
   go_wp2_with fail
   refine(ContainsFunc_Int.calls A1 c1 l1 _ 63 _ _ sparse_painted.enters HR.out (fun W x v hW hK _=>by cases hK;exact sparse_painted.lit W x)).mono ?_;rintro e w' ⟨rfl,hb⟩;rw[HB.out];go_wp2_with fail
   go_ret;exact⟨rfl,hb⟩
section
open Go.Maps
theorem intset_inv{P:Program}{e:TypeId}(he:P.underlying e=some .bool){v:Value}{c:Bool}{ps:List MemPlace}(h:plainElem (H:=Unit) P e v=some (.lit (.bool c),ps)):v= .bool c:=by
 unfold plainElem at h;rw[he]at h;cases v<;>simp at h
 rw[h.1]
def IntSet(w:World)(b n:Nat)(f:Int→Bool):Prop:= ∃D:DataW Unit,w.ownsMap Tryz.prog 3 (plainElem Tryz.prog 4) b n D∧Maps.IsMap D∧ ∀x,D.atKey (.int .i64 x) (.lit (.bool false))= .lit (.bool (f x))
section
variable {w w1:World} {b n:Nat} {f g:Int→Bool}
theorem IntSet.congr(h:IntSet w b n f)(hf: ∀x,f x=g x):IntSet w b n g:=by
 obtain⟨D,h1,h2,h3⟩:=h;exact⟨D,h1,h2,fun x=>by rw[←hf];exact h3 x⟩
theorem IntSet.made(w:World):IntSet (w.alloc (.map #[] 0)) w.heap.size 0 (fun _=>false):=⟨.map [],World.ownsMap_made _ _ _ _,⟨[],rfl⟩,fun x=>by simp[DataW.atKey]⟩
theorem IntSet.mono(h:IntSet w b n f){m:Nat}(hm:n≤m):IntSet w b m f:=by
 obtain⟨D,h1,h2⟩:=h;exact⟨D,h1.mono hm,h2⟩
theorem IntSet.alloc(h:IntSet w b n f)(o:Obj):IntSet (w.alloc o) b n f:=by
 obtain⟨D,h1,h2⟩:=h;exact⟨D,h1.alloc o,h2⟩
theorem IntSet.lt(h:IntSet w b n f):b< w.heap.size:=by
 obtain⟨D,h1,h2⟩:=h;exact h1.lt
theorem IntSet.kept(h:IntSet w b n f)(hh:w1.heap[b]? =w.heap[b]?):IntSet w1 b n f:=by
 obtain⟨D,⟨es,cl,hb,r⟩,h2⟩:=h;exact⟨D,⟨es,cl,hh.trans hb,r⟩,h2⟩
theorem IntSet.look(h:IntSet w b n f)(x:Int)(hx:(Lit.int .i64 x).wf=true):(Instr.lookup 78 (.map (some b)) (.int .i64 x) false).run Tryz.prog w= .ok (.bool (f x)) w:=by
 obtain⟨D,h1,h2,h3⟩:=h;obtain⟨v,ps,hr,hv⟩:=h1.lookup (t:=78) (e:=4) (Maps.int_keyed Tryz.underlying3) Tryz.underlying78 (z:= .bool false) (by kernel_rfl) (plainElem_bool Tryz.underlying4 false) (key:= .int .i64 x) (keyOf_int_mk Tryz.underlying3 hx);rw[h3]at hv;rw[hr,intset_inv Tryz.underlying4 hv]
theorem IntSet.put(h:IntSet w b n f)(hn:n< maxLen)(x:Int)(hx:(Lit.int .i64 x).wf=true)(c:Bool): ∃w',(Instr.mapUpdate 78 (.map (some b)) (.int .i64 x) (.bool c)).run Tryz.prog w= .ok () w'∧IntSet w' b (n+1) (fun y=>if y=x then c else f y)∧w.grownBy w' (some b):=by
 obtain⟨D,h1,h2,h3⟩:=h;obtain⟨w',hr,ho,hg⟩:=h1.update (t:=78) (e:=4) (Maps.int_keyed Tryz.underlying3) Tryz.underlying78 hn (key:= .int .i64 x) (val:= .bool c) (keyOf_int_mk Tryz.underlying3 hx) (plainElem_bool Tryz.underlying4 c);refine⟨w',hr,⟨_,ho,h2.put _ _,fun y=>?_⟩,hg⟩;by_cases e:y=x
 ·subst e
  show _=DataW.lit (Lit.bool (if y=y then c else f y))
  rw[if_pos rfl];exact Maps.atKey_put_same h2 ((Maps.int_keyed (P:=Tryz.prog) Tryz.underlying3).key (keyOf_int_mk Tryz.underlying3 hx)) _ _
 ·show _=DataW.lit (Lit.bool (if y=x then c else f y))
  rw[if_neg e,Maps.atKey_put_other (by simpa using e)];exact h3 y
end
theorem wpList_intset_put(w:World){ops:Array Oper}{rest:List Oper}{o:Oper}{a:Act}{Q:Exit→Act→World→Prop}
  (hg:o.guard=none) (m x v:Operand) (hop:o.op=Op.mapUpdate 78 m x v) (b n:Nat) (f:Int→Bool)
  (hm:a.eval m= .map (some b)) (hs:IntSet w b n f) (hn:n< maxLen) (k:Int) (c:Bool) (hx:a.eval x= .int .i64 k) (hv:a.eval v= .bool c) (hk:(Lit.int .i64 k).wf=true)
  (hK: ∀w',IntSet w' b (n+1) (fun y=>if y=k then c else f y)→w.grownBy w' (some b)→wpList Tryz.prog ops Q rest (a.put o.dst undef) w'):
  wpList Tryz.prog ops Q (o::rest) a w:=by
 refine wpList_plain hg fun K' hK'=>?_
 obtain⟨w',hrun,r1,r2⟩:=hs.put hn k hk c;unfold Oper.wp;simp[execOp,hop,hm,hx,hv,hrun,Result.andThen]
 exact hK' _ _ (hK w' r1 r2)
def seenAt(row:List Bool)(cs:List Int)(k:Nat)(x:Int):Bool:=(List.range k).any fun j=>row.getD j false && (cs.getD j 0==x)
def fitAt(row:List Bool)(cs:List Int)(k:Nat):Bool:=!(row.getD k false && seenAt row cs k (cs.getD k 0))
def fitRow(row:List Bool)(cs:List Int):Bool:=(List.range row.length).all (fitAt row cs)
def wfInts(cs:List Int):Bool:=cs.all fun c=>decide (-9223372036854775808≤c) && decide (c≤9223372036854775807)
def sparse_fits.f(l0:List (List Bool))(l1:List Int):Option Bool:=if(wfInts l1 && l0.all (fun row=>decide (row.length≤l1.length)))=true then some (l0.all fun row=>fitRow row l1)else none
theorem seenAt_succ(row:List Bool)(cs:List Int)(k:Nat)(x:Int):seenAt row cs (k+1) x=(seenAt row cs k x|| (row.getD k false && (cs.getD k 0==x))):=by
 unfold seenAt;rw[List.range_succ,List.any_append,List.any_cons,List.any_nil,Bool.or_false]
theorem wfInts_at{cs:List Int}(h:wfInts cs=true){k:Nat}(hk:k< cs.length):(Lit.int .i64 (cs.getD k 0)).wf=true:=by
 have h1:=List.all_eq_true.1 h cs[k] (List.getElem_mem _);simp only[Bool.and_eq_true,decide_eq_true_eq]at h1;have e:cs.getD k 0=cs[k] :=by simp[hk]
 rw[e];exact WalkArith.wf_i64 h1
theorem sparse_fits.calls(A0:Option Addr)(c0:Nat)(l0:List (List Bool))(A1:Option Addr)(c1:Nat)(l1:List Int)(r:Bool)(w:World)(hr0:Kd.C (Kd.slice 4 Kd.bool) w A0 l0.length l0)(hc0:l0.length≤c0)(hr1:Kd.C (Kd.int .i64) w A1 l1.length l1)(hc1:l1.length≤c1)(h:sparse_fits.f l0 l1=some r):
  Calls Tryz.prog 36 #[.slice A0 l0.length c0,.slice A1 l1.length c1] w fun e w'=>e= .returned (.bool r)∧Below w.heap.size w w':=by
 have HR0:=Aside0.mk hr0;have HR1:=Aside0.mk hr1;have hn0:l0.length≤9223372036854775807:=hr0.2.1;have hn1:l1.length≤9223372036854775807:=hr1.2.1;clear hr0 hr1 hc0 hc1;unfold sparse_fits.f at h;split at h
 case isFalse=>cases h
 case isTrue hok=>
 rw[Bool.and_eq_true]at hok;have HW:=Aside0.mk hok.1;have HL:=Aside0.mk (List.all_eq_true.1 hok.2);have HR:=Aside0.mk (Option.some.inj h);clear hok h;have hmm:= @run_makeMap Tryz.prog;go_enter Tryz.func36,Tryz.ntmps36
 go_wp2
 go_loopg [12] l0.length (fun gg s12 wr=> ∃i:Nat,i≤l0.length∧l0.length - i≤gg∧s12= .int .i64 i∧Aside0 (Below w.heap.size w wr)∧Aside0 (∀x,x∈l0.take i→fitRow x l1=true))
 case atStart=>exact⟨0,Nat.zero_le _,by omega,rfl,⟨Below.refl _ _⟩,⟨by simp⟩⟩
 case round=>
  obtain⟨i,hi,hg,rfl,HB,HA⟩:=hrel;by_cases hlt:i< l0.length
  ·have hltz:(i:Int)< (l0.length:Int):=by omega
   obtain⟨ad,c,e0,hcl,hK,hc0'⟩:=Kd.C_get (Kd.C_below HR0.out HB.out) ([] :List Bool) (i:Int) (by omega) (by omega);subst e0;obtain⟨A2,c2,rfl,hl2,hr2⟩:=hK;have hx:l0.getD (Int.toNat i) [] =l0[i] :=by simp[hlt]
   rw[hx]at hc0' hl2 hr2;have hcell:wr.cell? (ad.add i)=some (.slice A2 l0[i].length c2):=by
    have:=hc0' 0 _ rfl
    simpa [Kd.slice]using this
   have HR2:=Aside0.mk hr2;have hn2:l0[i].length≤9223372036854775807:=hr2.2.1;have hlen:l0[i].length≤l1.length:=of_decide_eq_true (HL.out l0[i] (List.getElem_mem _));obtain⟨row,hrow⟩: ∃row,row=l0[i] :=⟨_,rfl⟩;rw[←hrow]at hcell HR2 hn2 hlen;have Hrow:=Aside0.mk hrow;clear hc0' hl2 hr2 hx hcl hrow;have HC:=Aside0.mk hcell;obtain⟨wo,hwo⟩: ∃wo:World,wo=wr:=⟨_,rfl⟩;subst hwo;go_wp2_with fail
   go_loopg [19] row.length (fun gg s19 w'=> ∃k:Nat,k≤row.length∧row.length - k≤gg∧s19= .int .i64 k∧Aside0 (Below wo.heap.size wo w')∧Aside0 (IntSet w' wo.heap.size k (seenAt row l1 k))∧Aside0 (∀j,j< k→fitAt row l1 j=true))
   case atStart=>exact⟨0,Nat.zero_le _,by omega,rfl,⟨(Below.refl _ _).alloc (Nat.le_refl _) _⟩,⟨(IntSet.made wo).congr (fun x=>rfl)⟩,⟨fun j hj=>absurd hj (by omega)⟩⟩
   case round=>
    obtain⟨k,hk,hg2,rfl,HB2,HS,HF⟩:=hrel;by_cases hkt:k< row.length
    ·have hktz:(k:Int)< (row.length:Int):=by omega
     have hkl:k< l1.length:=by omega
     have hklz:(k:Int)< (l1.length:Int):=by omega
     have hBw:Below w.heap.size w wr:=HB.out.trans (HB2.out.mono HB.out.size);obtain⟨ad2,e2,hx2⟩:=Kd.at_bool (Kd.C_below HR2.out HB2.out) (k:Int) (by omega) (by omega);obtain⟨ad3,e3,hx3⟩:=Kd.at_int (Kd.C_below HR1.out hBw) (k:Int) (by omega) (by omega);subst e2 e3;simp only[rd,rdOf,Int.toNat_natCast]at hx2 hx3;have hwf:=wfInts_at HW.out hkl;have hss:=seenAt_succ row l1 k;have hfa:fitAt row l1 k=!(row.getD k false && seenAt row l1 k (l1.getD k 0)):=rfl;obtain⟨ck,hck⟩: ∃ck,ck=l1.getD k 0:=⟨_,rfl⟩;rw[←hck]at hx3 hwf hfa hss;obtain⟨bk,hbk⟩: ∃bk,bk=row.getD k false:=⟨_,rfl⟩;rw[←hbk]at hx2 hfa hss;have hlook:=IntSet.look HS.out ck hwf;have Hfa:=Aside0.mk hfa;have Hss:=Aside0.mk hss;have Hwf:=Aside0.mk hwf;clear hss hfa hck hbk hwf;cases bk with
     |false=>
      clear hlook;go_wp2_with fail
      go_roundg (row.length - (k+1))
      case measure=>omega
      case rel=>
       refine⟨k+1,by omega,by omega,by go_num,HB2,⟨(HS.out.congr (fun x=>?_)).mono (by omega)⟩,⟨fun j hj=>?_⟩⟩
       ·rw[Hss.out x];simp
       ·by_cases e:j=k
        ·subst e;rw[Hfa.out];rfl
        ·exact HF.out j (by omega)
     |true=>
      obtain⟨sk,hsk⟩: ∃sk,sk=seenAt row l1 k ck:=⟨_,rfl⟩;rw[←hsk]at hlook;have Hsk:=Aside0.mk hsk;clear hsk;cases sk with
      |true=>
       go_wp2_with fail
       go_ret;have hrr:r=false:=by
        rw[←HR.out];refine List.all_eq_false.2 ⟨l0[i],List.getElem_mem _,?_⟩;rw[←Hrow.out];refine Bool.eq_false_iff.1 (List.all_eq_false.2 ⟨k,List.mem_range.2 hkt,?_⟩);rw[Hfa.out,←Hsk.out];decide
       exact⟨by rw[hrr];rfl,hBw⟩
      |false=>
       go_wp2_with (at_mapUpdate;(refine wpList_intset_put _ rfl _ _ _ rfl wo.heap.size k _ rfl HS.out (by unfold maxLen;omega) ck true rfl rfl Hwf.out ?_);intro w1 hs1 hg1;have HS1:=Aside0.mk hs1;have HG1:=Aside0.mk hg1;clear hs1 hg1)
       go_roundg (row.length - (k+1))
       case measure=>omega
       case rel=>
        refine⟨k+1,by omega,by omega,by go_num,⟨HB2.out.grown HG1.out HB2.out.size (fun b hb=>by cases hb;exact Nat.le_refl _)⟩,⟨HS1.out.congr (fun x=>?_)⟩,⟨fun j hj=>?_⟩⟩
        ·rw[Hss.out x];by_cases e:x=ck
         ·subst e;simp
         ·rw[if_neg e]
          have:(ck==x)=false:=beq_eq_false_iff_ne.2 (Ne.symm e)
          rw[this];simp
        ·by_cases e:j=k
         ·subst e;rw[Hfa.out,←Hsk.out];rfl
         ·exact HF.out j (by omega)
    ·have hktz: ¬ (k:Int)< (row.length:Int):=by omega
     have:k=row.length:=by omega
     subst this;go_wp2_with fail
     go_roundg (l0.length - (i+1))
     case measure=>omega
     case rel=>
      refine⟨i+1,by omega,by omega,by go_num,⟨HB.out.trans (HB2.out.mono HB.out.size)⟩,⟨fun x hx=>?_⟩⟩;rw[List.take_succ_eq_append_getElem hlt,List.mem_append]at hx;rcases hx with hx|hx
      ·exact HA.out x hx
      ·rw[List.mem_singleton.1 hx,←Hrow.out];exact List.all_eq_true.2 (fun j hj=>HF.out j (List.mem_range.1 hj))
  ·have hltz: ¬ (i:Int)< (l0.length:Int):=by omega
   have:i=l0.length:=by omega
   subst this;go_wp2_with fail
   go_ret;rw[List.take_length]at HA;have hrr:r=true:=by rw[←HR.out];exact List.all_eq_true.2 HA.out
   exact⟨by rw[hrr];rfl,HB.out⟩
end
def sparse_seeded.l0:Nat→List Int→Int→List Int→Int→Int→Option (Int×Int)
 |0,_,_,_,_,_=>none
 |k+1,x0,x4,x10,x11,x12=>if x12< x11 then(if 0≤x12 then(if x12< (x10.length:Int)then(if(rd x10 x12)< 0 then(some (0,2))else(if(rd x10 x12)≥(x0.length:Int)then(some (0,2))else(sparse_seeded.l0 k x0 (mx x4 (wrap64 ((rd x10 x12) +1))) x10 x11 (wrap64 (x12+1)))))else(none))else(none))else(some (x4,0))
def sparse_seeded.f(k:Nat)(l0:List Int):Option (Int×Int):=if(l0.length:Int) >4096 then(some (0,3))else(sparse_seeded.l0 k l0 0 l0 (l0.length:Int) 0)
theorem sparse_seeded.calls(k:Nat)(A0:Option Addr)(c0:Nat)(l0:List Int)(r1:Int)(r2:Int)(w:World)(hr0:Kd.C (Kd.int .i64) w A0 l0.length l0)(hc0:l0.length≤c0)(h:sparse_seeded.f k l0=some (r1,r2)):
  Calls Tryz.prog 37 #[.slice A0 l0.length c0] w fun e w'=>e= .returned (.tuple #[.int .i64 r1,.int .i64 r2])∧Below w.heap.size w w':=by
 have HR0:=Aside0.mk hr0;have HC0:=Aside0.mk hc0;clear hr0 hc0;have HB:=Aside0.mk (Below.refl w.heap.size w);have H:=h;clear h;unfold sparse_seeded.f at H;by_cases c2:(l0.length:Int) >4096
 ·rw[if_pos c2]at H;have c2b0:=decide_eq_true c2;have c2b1:decide (4096< l0.length)=true:=decide_eq_true (by omega);clear c2;simp only[Option.some.injEq,Prod.mk.injEq]at H;obtain⟨rfl,rfl⟩:=H;go_enter Tryz.func37,Tryz.ntmps37
  go_wp2
  go_ret2;exact⟨eQ,bQ⟩
 ·rw[if_neg c2]at H;have c2b0:=decide_eq_false c2;have c2b1:decide (4096< l0.length)=false:=decide_eq_false (by omega);clear c2;have H':=Aside0.mk H;clear H;go_enter Tryz.func37,Tryz.ntmps37
  go_wp2
  go_loopg [4,12] k (fun kq v4 v12 w'=> ∃ (x4_1:Int) (x12_1:Int),v4= .int .i64 x4_1∧v12= .int .i64 x12_1∧Aside0 (sparse_seeded.l0 kq l0 x4_1 l0 (l0.length:Int) x12_1=some (r1,r2))∧Aside0 (kq≤k)∧Aside0 (Below w.heap.size w w'))
  case atStart=>exact⟨(0),(0),eS,eS,H',⟨Nat.le_refl _⟩,⟨bQ⟩⟩
  case round=>
   clear H';(try clear c2);(try clear c2b0);(try clear c2b1);(try clear p2);obtain⟨x4_1,x12_1,rfl,rfl,HA,HK1,HB⟩:=hrel;cases gk with
   |zero=>exact absurd HA.out (by simp[sparse_seeded.l0])
   |succ k1=>
    have H:=HA.out;clear HA;simp only[sparse_seeded.l0]at H;by_cases c3:x12_1< (l0.length:Int)
    ·rw[if_pos c3]at H;have c3b0:=decide_eq_true c3;clear c3;replace H:=iN H;obtain⟨c4,H⟩:=H;have c4b0:=decide_eq_true c4;clear c4;replace H:=iN H;obtain⟨c5,H⟩:=H;have c5b0:=decide_eq_true c5;clear c5;by_cases c6:(rd l0 x12_1)< 0
     ·rw[if_pos c6]at H;have c6b0:=decide_eq_true c6;clear c6;simp only[Option.some.injEq,Prod.mk.injEq]at H;obtain⟨rfl,rfl⟩:=H;have p139:0≤(x12_1:Int):=dQ;have q139:x12_1< (l0.length:Int):=dQ;obtain⟨ad139,e139,hx139_0⟩:=Kd.at_int HR0.out x12_1 p139 q139;cases e139;replace hx139_0:=cE HB.out hx139_0;replace p139:=eq_true p139;replace q139:=eq_true q139;go_wp2
      go_ret2;exact⟨eQ,bQ⟩
     ·rw[if_neg c6]at H;have c6b0:=decide_eq_false c6;clear c6;by_cases c7:(rd l0 x12_1)≥(l0.length:Int)
      ·rw[if_pos c7]at H;have c7b0:=decide_eq_true c7;clear c7;simp only[Option.some.injEq,Prod.mk.injEq]at H;obtain⟨rfl,rfl⟩:=H;have p139:0≤(x12_1:Int):=dQ;have q139:x12_1< (l0.length:Int):=dQ;obtain⟨ad139,e139,hx139_0⟩:=Kd.at_int HR0.out x12_1 p139 q139;cases e139;replace hx139_0:=cE HB.out hx139_0;replace p139:=eq_true p139;replace q139:=eq_true q139;go_wp2
       go_ret2;exact⟨eQ,bQ⟩
      ·rw[if_neg c7]at H;have c7b0:=decide_eq_false c7;clear c7;obtain⟨ji8,hji8⟩: ∃j_:Int,(mx x4_1 (wrap64 ((rd l0 x12_1) +1)))=j_:=⟨_,rfl⟩;(first|rw[hji8]at H|simp only[hji8]at H);have hji8_:(if x4_1< (wrap64 ((rd l0 x12_1) +1))then(wrap64 ((rd l0 x12_1) +1))else x4_1)=ji8:=hji8;have H':=Aside0.mk H;clear H;have p139:0≤(x12_1:Int):=dQ;have q139:x12_1< (l0.length:Int):=dQ;obtain⟨ad139,e139,hx139_0⟩:=Kd.at_int HR0.out x12_1 p139 q139;cases e139;replace hx139_0:=cE HB.out hx139_0;replace p139:=eq_true p139;replace q139:=eq_true q139;go_wp2
       go_roundg k1
       case measure=>have:=HK1.out;omega
       case rel=>exact⟨(ji8),(wrap64 (x12_1+1)),(by first|rfl| (simp;done) | (simp only[←hji8] <;>(first|rfl|simp)) | (simp[*];done)),eS,H',⟨by have:=HK1.out;omega⟩,⟨bQ⟩⟩
    ·rw[if_neg c3]at H;have c3b0:=decide_eq_false c3;clear c3;simp only[Option.some.injEq,Prod.mk.injEq]at H;obtain⟨rfl,rfl⟩:=H;go_wp2
     go_ret2;exact⟨eQ,bQ⟩
end Go.Proofs.YtjjbondlcjnaiaaGreat.PSparseOwn
