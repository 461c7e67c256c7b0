-- written by a program of this session, after the kit's print
import Derived.Test.YtjjbondlcjnaiaaGreatPSparseSeedsx10
namespace Go.Proofs.YtjjbondlcjnaiaaGreat.PSparseSeeds
open Go.RowKit Go.Proofs.YtjjbondlcjnaiaaGreatW.PrintWords Go.Proofs.YtjjbondlcjnaiaaGreatW.PrintLast Go.Proofs.YtjjbondlcjnaiaaGreatW.PrintMore
set_option maxHeartbeats 8000000
set_option maxRecDepth 100000
attribute [local go_sem] max2_int min2_int max_two min_two max_three min_three max_four min_four
set_option linter.unusedVariables false
set_option linter.unusedSimpArgs false
theorem IndexFunc_LBool.calls(A0:Option Addr)(c0:Nat)(l0:List (List Bool))(w:World)(g:Nat)(lb:Array Value)(p:List Bool→Bool)
  (eg: ∀args w,(callFunc g args).run Tryz.prog w= .ok (.enter g args) w)
  (hr0:Kd.C (Kd.slice 4 Kd.bool) w A0 l0.length l0)
  (hp: ∀ (W:World) (x:List Bool) (v:Value),Below w.heap.size w W→Kd.K (Kd.slice 4 Kd.bool) W x [v] →x∈l0→FnAny g lb v (p x) W):
  Calls Tryz.prog 85 #[.slice A0 l0.length c0,.func (.func g) #[] lb] w fun e w'=>(∃i:Int,e= .returned (.int .i64 i)∧(decide (0≤i)=l0.any p))∧Below w.heap.size w w':=by
 have HR:=Aside0.mk hr0;have HP:=Aside0.mk hp;have hn:l0.length≤9223372036854775807:=hr0.2.1;clear hr0 hp;go_enter Tryz.func85,Tryz.ntmps85
 go_wp2
 go_loopg [5,8] l0.length (fun gg _ s8 wr=> ∃kk:Nat,kk≤l0.length∧l0.length - kk≤gg∧s8= .int .i64 kk∧Aside0 (Below w.heap.size w wr)∧Aside0 (∀x,x∈l0.take kk→p x=false))
 case atStart=>exact⟨0,Nat.zero_le _,by omega,rfl,⟨Below.refl _ _⟩,⟨by simp⟩⟩
 case round=>
  obtain⟨kk,hkk,hg,rfl,HB,HA⟩:=hrel;by_cases hlt:kk< l0.length
  ·have hltz:(kk:Int)< (l0.length:Int):=by omega
   obtain⟨ad,c,e0,hc1,hK,hc0'⟩:=Kd.C_get (Kd.C_below HR.out HB.out) ([] :List Bool) (kk:Int) (by omega) (by omega);subst e0;obtain⟨v,rfl⟩: ∃v,c= [v] :=by
    match c,(show c.length=1 from hc1)with
    | [v],_=>exact⟨v,rfl⟩
   have hcell:wr.cell? (ad.add kk)=some v:=by
    have:=hc0' 0 v rfl
    rw[show(Kd.slice 4 Kd.bool).sz=1 from rfl]at this
    simpa using this
   have hx:l0.getD (Int.toNat kk) ([] :List Bool)=l0[kk] :=by simp[hlt]
   rw[hx]at hK;have hcall:=HP.out wr l0[kk] v HB.out hK (List.getElem_mem _);unfold FnAny at hcall;have HC:=Aside0.mk hcall;clear hcall hc0' hK hx hc1;obtain⟨b,hqq⟩: ∃b,p l0[kk] =b:=⟨_,rfl⟩;rw[hqq]at HC;have Hqq:=Aside0.mk hqq;clear hqq;cases b with
   |true=>
    go_wp2_with fail
    refine HC.out.mono ?_;rintro e w' ⟨rfl,hb⟩;go_wp2_with fail
    go_ret;refine⟨⟨_,rfl,?_⟩,HB.out.trans (hb.mono HB.out.size)⟩;rw[show decide (0≤(kk:Int))=true from by simp];exact(List.any_eq_true.2 ⟨l0[kk],List.getElem_mem _,Hqq.out⟩).symm
   |false=>
    go_wp2_with fail
    refine HC.out.mono ?_;rintro e w' ⟨rfl,hb⟩;go_wp2_with fail
    go_roundg (l0.length - (kk+1))
    case measure=>omega
    case rel=>
     refine⟨kk+1,by omega,by omega,by go_num,⟨HB.out.trans (hb.mono HB.out.size)⟩,⟨fun x hx=>?_⟩⟩;rw[List.take_succ_eq_append_getElem hlt,List.mem_append]at hx;rcases hx with hx|hx
     ·exact HA.out x hx
     ·rw[List.mem_singleton.1 hx];exact Hqq.out
  ·have hltz: ¬ (kk:Int)< (l0.length:Int):=by omega
   have:kk=l0.length:=by omega
   subst this;go_wp2
   go_ret;refine⟨⟨_,rfl,?_⟩,HB.out⟩;rw[List.take_length]at HA;rw[show decide ((0:Int)≤ -1)=false from rfl];exact(List.any_eq_false.2 (fun x hx=>by rw[HA.out x hx];decide)).symm
theorem ContainsFunc_LBool.calls(A0:Option Addr)(c0:Nat)(l0:List (List Bool))(w:World)(g:Nat)(lb:Array Value)(p:List Bool→Bool)
  (eg: ∀args w,(callFunc g args).run Tryz.prog w= .ok (.enter g args) w)
  (hr0:Kd.C (Kd.slice 4 Kd.bool) w A0 l0.length l0)
  (hp: ∀ (W:World) (x:List Bool) (v:Value),Below w.heap.size w W→Kd.K (Kd.slice 4 Kd.bool) W x [v] →x∈l0→FnAny g lb v (p x) W):
  Calls Tryz.prog 60 #[.slice A0 l0.length c0,.func (.func g) #[] lb] w fun e w'=>e= .returned (.bool (l0.any p))∧Below w.heap.size w w':=by
 have HX:=Aside0.mk (IndexFunc_LBool.calls A0 c0 l0 w g lb p eg hr0 hp);clear eg hr0 hp;go_enter Tryz.func60,Tryz.ntmps60
 go_wp2_with fail
 refine HX.out.mono ?_;rintro e w' ⟨⟨i,rfl,hi⟩,hb⟩;have Hi:=Aside0.mk hi;clear hi HX;go_wp2_with fail
 go_ret;exact⟨by rw[←Hi.out];rfl,hb⟩
theorem sparse_form.enters: ∀args w,(callFunc 61 args).run Tryz.prog w= .ok (.enter 61 args) w:=enters_of Tryz.func61 (by kernel_rfl) rfl
theorem sparse_form.lit(n:Int)(B:Addr)(W:World)(hB:W.cell? B=some (.int .i64 n))(A:Option Addr)(c:Nat)(x:List Bool):FnAny 61 #[.pointer (some B)] (.slice A x.length c) (decide (¬ (x.length:Int)=n)) W:=by
 unfold FnAny;go_enter Tryz.func61,Tryz.ntmps61
 go_wp2_with fail
 go_ret;exact⟨by rw[decide_not];rfl,Below.refl _ _⟩
def sparse_form.f(l0:List (List Bool))(a1:Int):Option Int:=
 if(l0.length:Int) >4096 then some 3 else if a1< 0 then some 2 else if a1 >4096 then some 2 else if l0.any (fun x=>decide (¬ (x.length:Int)=a1))=true then some 2 else some 0
theorem sparse_form.calls(A0:Option Addr)(c0:Nat)(l0:List (List Bool))(a1:Int)(r:Int)(w:World)(hr0:Kd.C (Kd.slice 4 Kd.bool) w A0 l0.length l0)(hc0:l0.length≤c0)(h:sparse_form.f l0 a1=some r):
  Calls Tryz.prog 34 #[.slice A0 l0.length c0,.int .i64 a1] w fun e w'=>e= .returned (.int .i64 r)∧Below w.heap.size w w':=by
 have HR:=Aside0.mk hr0;clear hr0 hc0;unfold sparse_form.f at h;by_cases h1:(l0.length:Int) >4096
 ·rw[if_pos h1]at h;cases h;go_enter Tryz.func34,Tryz.ntmps34
  go_wp2_with fail
  go_ret;exact⟨rfl,by repeat(first|exact Below.refl _ _|apply below_alloc|apply pw_below_drewN|apply below_drew1)⟩
 ·rw[if_neg h1]at h;by_cases h2:a1< 0
  ·rw[if_pos h2]at h;cases h;go_enter Tryz.func34,Tryz.ntmps34
   go_wp2_with fail
   go_ret;exact⟨rfl,by repeat(first|exact Below.refl _ _|apply below_alloc|apply pw_below_drewN|apply below_drew1)⟩
  ·rw[if_neg h2]at h;by_cases h3:a1 >4096
   ·rw[if_pos h3]at h;cases h;go_enter Tryz.func34,Tryz.ntmps34
    go_wp2_with fail
    go_ret;exact⟨rfl,by repeat(first|exact Below.refl _ _|apply below_alloc|apply pw_below_drewN|apply below_drew1)⟩
   ·rw[if_neg h3]at h;obtain⟨b,hb⟩: ∃b,l0.any (fun x=>decide (¬ (x.length:Int)=a1))=b:=⟨_,rfl⟩;rw[hb]at h;have HB:=Aside0.mk hb;clear hb;have HP: ∀W:World,Below (w.alloc (.cells #[.int .i64 a1] 3 (0,0))).heap.size (w.alloc (.cells #[.int .i64 a1] 3 (0,0))) W→W.cell? ⟨w.heap.size,0,none⟩=some (.int .i64 a1):=
     fun W hW=>(hW.cell (p:=⟨w.heap.size,0,none⟩) (by simp)).trans (by go_simp)
    have HP:=Aside0.mk HP;cases b;all_goals
     cases h;go_enter Tryz.func34,Tryz.ntmps34
     go_wp2_with fail
     refine(ContainsFunc_LBool.calls A0 c0 l0 _ 61 _ _ sparse_form.enters (Kd.C_alloc HR.out _) (fun W x v hW hK _=>by obtain⟨A,c,hv,_⟩:=hK;cases hv;exact sparse_form.lit a1 _ W (HP.out W hW) A c x)).mono ?_;rintro e w' ⟨rfl,hb⟩;rw[HB.out];go_wp2_with fail
     go_ret;exact⟨rfl,(below_alloc (Below.refl _ _) _).trans (hb.mono (by simp))⟩
def sparse_Colours.f(l0:List (List Bool))(a1:Int):Option (List Int×Int):=(sparse_form.f l0 a1).bind fun t272=>(if t272=0 then((sparse_colours.f l0 a1).bind fun t273=>(some (t273,0)))else(some (([] :List Int),t272)))
theorem sparse_Colours.calls(A0:Option Addr)(c0:Nat)(l0:List (List Bool))(a1:Int)(r1:List Int)(r2:Int)(w:World)(hr0:Kd.C (Kd.slice 4 Kd.bool) w A0 l0.length l0)(hc0:l0.length≤c0)(h:sparse_Colours.f l0 a1=some (r1,r2)):
  Calls Tryz.prog 28 #[.slice A0 l0.length c0,.int .i64 a1] w fun e w'=> ∃v0_:Value,e= .returned (.tuple #[v0_,.int .i64 r2])∧Kd.R (Kd.int .i64) 3 w' w.heap.size (fun _=>True) v0_ r1∧Below w.heap.size w w':=by
 have HR0:=Aside0.mk hr0;have HC0:=Aside0.mk hc0;clear hr0 hc0;have HB:=Aside0.mk (Below.refl w.heap.size w);have H:=h;clear h;unfold sparse_Colours.f at H;obtain⟨t272,A3,H⟩:=bO H;(try dsimp only at H);by_cases c4:t272=0
 ·rw[if_pos c4]at H;have c4b0:=beq_iff_eq.mpr c4;have c4b1:=bne_eq_false_iff_eq.mpr c4;clear c4;obtain⟨t273,A5,H⟩:=bO H;(try dsimp only at H);simp only[Option.some.injEq,Prod.mk.injEq]at H;obtain⟨rfl,rfl⟩:=H;go_enter Tryz.func28,Tryz.ntmps28
  go_wp2_with (first| (refine gF 34 ?_;refine gl_ (some 9) Tryz.func34 #[.slice A0 l0.length c0,.int .i64 a1] ?_;(with_reducible refine(sparse_form.calls _ _ l0 a1 t272 _ (cQ (HR0.out)) HC0.out A3.out).mono ?_);rintro e w6 ⟨rfl,hb⟩;refine⟨_,rfl,?_⟩;replace HB:=Aside0.mk (below_step bQ hb);(try clear hb);(try clear hi)) | (refine gF 57 ?_;refine gl_ (some 15) Tryz.func57 #[.slice A0 l0.length c0,.int .i64 a1] ?_;(with_reducible refine(sparse_colours.calls _ _ l0 a1 t273 _ (cbQ HR0 HB) HC0.out A5.out).mono ?_);rintro e w7 ⟨v274,rfl,ho0,hb⟩;refine⟨_,rfl,?_⟩;have HO275:=rL w ho0;replace HB:=hsQ hb;(try clear hb);(try clear hi);(try clear ho0)))
  go_ret2;exact⟨_,eQ,rX (h:=HO275.out),bQ⟩
 ·rw[if_neg c4]at H;have c4b0:=beq_eq_false_iff_ne.mpr c4;have c4b1:=bne_iff_ne.mpr c4;simp only[Option.some.injEq,Prod.mk.injEq]at H;obtain⟨rfl,rfl⟩:=H;go_enter Tryz.func28,Tryz.ntmps28
  go_wp2_with (first| (refine gF 34 ?_;refine gl_ (some 9) Tryz.func34 #[.slice A0 l0.length c0,.int .i64 a1] ?_;(with_reducible refine(sparse_form.calls _ _ l0 a1 t272 _ (cQ (HR0.out)) HC0.out A3.out).mono ?_);rintro e w8 ⟨rfl,hb⟩;refine⟨_,rfl,?_⟩;replace HB:=Aside0.mk (below_step bQ hb);(try clear hb);(try clear hi)))
  go_ret2;exact⟨(.slice none 0 0),eQ,by first|exact Kd.R_nil _ _ _ _ _|exact Kd.N_nil _ _ _ _ _|exact Kd.V_nil _ _ _ _ _|exact Kd.Q_nil _ _ _ _ _|exact Kd.S_nil _ _ _ _ _,bQ⟩
def fluxionref08_Ints.l0:Nat→List Int→List Int→Int→Option (Bool)
 |0,_,_,_=>none
 |k+1,x0,x1,x5=>if x5< (x0.length:Int)then(if 0≤x5 then(if x5< (x1.length:Int)then(if(rd x0 x5)=(rd x1 x5)then(fluxionref08_Ints.l0 k x0 x1 (wrap64 (x5+1)))else(some false))else(none))else(none))else(some true)
def fluxionref08_Ints.f(k:Nat)(l0:List Int)(l1:List Int):Option (Bool):=if(l0.length:Int)=(l1.length:Int)then(fluxionref08_Ints.l0 k l0 l1 0)else(some false)
theorem fluxionref08_Ints.calls(k:Nat)(A0:Option Addr)(c0:Nat)(l0:List Int)(A1:Option Addr)(c1:Nat)(l1:List Int)(r:Bool)(w:World)(hr0:Kd.C (Kd.int .i64) w A0 l0.length l0)(hc0:l0.length≤c0)(hr1:Kd.C (Kd.int .i64) w A1 l1.length l1)(hc1:l1.length≤c1)(h:fluxionref08_Ints.f k l0 l1=some r):
  Calls Tryz.prog 30 #[.slice A0 l0.length c0,.slice A1 l1.length c1] w fun e w'=>e= .returned (.bool r)∧Drawn0 w w':=by
 have HR0:=Aside0.mk hr0;have HC0:=Aside0.mk hc0;clear hr0 hc0;have HR1:=Aside0.mk hr1;have HC1:=Aside0.mk hc1;clear hr1 hc1;have H:=h;clear h;unfold fluxionref08_Ints.f at H;by_cases c3:(l0.length:Int)=(l1.length:Int)
 ·rw[if_pos c3]at H;have c3b0:=beq_iff_eq.mpr c3;have c3b1:=bne_eq_false_iff_eq.mpr c3;have c3b2:(l0.length==l1.length)=true:=by first|simpa using c3| (simp at c3 ⊢;omega)
  clear c3;have H':=Aside0.mk H;clear H;go_enter Tryz.func30,Tryz.ntmps30
  go_wp2
  repeat(go_quiet (fail);try go_wp2)
  go_loopg [5] k (fun kq v5 w'=> ∃ (x5_1:Int),v5= .int .i64 x5_1∧Aside0 (fluxionref08_Ints.l0 kq l0 l1 x5_1=some r)∧Aside0 (kq≤k)∧Drawn0 w w')
  case atStart=>exact⟨(0),eS,H',⟨Nat.le_refl _⟩,by repeat(first|exact Drawn0.refl _|apply Drawn0.step)⟩
  case round=>
   clear H';(try clear c1);(try clear p2);(try clear c3);(try clear c3b0);(try clear c3b1);(try clear c3b2);obtain⟨x5_1,rfl,HA,HK1,⟨m1,rfl⟩⟩:=hrel;cases gk with
   |zero=>exact absurd HA.out (by simp[fluxionref08_Ints.l0])
   |succ k1=>
    have H:=HA.out;clear HA;simp only[fluxionref08_Ints.l0]at H;by_cases c4:x5_1< (l0.length:Int)
    ·rw[if_pos c4]at H;have c4b0:=decide_eq_true c4;clear c4;replace H:=iN H;obtain⟨c5,H⟩:=H;have c5b0:=decide_eq_true c5;clear c5;replace H:=iN H;obtain⟨c6,H⟩:=H;have c6b0:=decide_eq_true c6;clear c6;by_cases c7:(rd l0 x5_1)=(rd l1 x5_1)
     ·rw[if_pos c7]at H;have c7b0:=beq_iff_eq.mpr c7;have c7b1:=bne_eq_false_iff_eq.mpr c7;clear c7;have H':=Aside0.mk H;clear H;have p276:0≤(x5_1:Int):=dQ;have q276:x5_1< (l0.length:Int):=dQ;obtain⟨ad276,e276,hx276_0⟩:=Kd.at_int HR0.out x5_1 p276 q276;cases e276;replace p276:=eq_true p276;replace q276:=eq_true q276;have p277:0≤(x5_1:Int):=dQ;have q277:x5_1< (l1.length:Int):=dQ;obtain⟨ad277,e277,hx277_0⟩:=Kd.at_int HR1.out x5_1 p277 q277;cases e277;replace p277:=eq_true p277;replace q277:=eq_true q277;go_wp2
      repeat(go_quiet (fail);try go_wp2)
      go_roundg k1
      case measure=>have:=HK1.out;omega
      case rel=>exact⟨(wrap64 (x5_1+1)),eS,H',⟨by have:=HK1.out;omega⟩,by repeat(first|exact Drawn0.refl _|apply Drawn0.step)⟩
     ·rw[if_neg c7]at H;have c7b0:=beq_eq_false_iff_ne.mpr c7;have c7b1:=bne_iff_ne.mpr c7;obtain rfl:=Option.some.inj H;have p276:0≤(x5_1:Int):=dQ;have q276:x5_1< (l0.length:Int):=dQ;obtain⟨ad276,e276,hx276_0⟩:=Kd.at_int HR0.out x5_1 p276 q276;cases e276;replace p276:=eq_true p276;replace q276:=eq_true q276;have p277:0≤(x5_1:Int):=dQ;have q277:x5_1< (l1.length:Int):=dQ;obtain⟨ad277,e277,hx277_0⟩:=Kd.at_int HR1.out x5_1 p277 q277;cases e277;replace p277:=eq_true p277;replace q277:=eq_true q277;go_wp2
      repeat(go_quiet (fail);try go_wp2)
      go_ret;exact⟨by first|rfl| (simp;done) | (simp[*];done),by repeat(first|exact Drawn0.refl _|apply Drawn0.step)⟩
    ·rw[if_neg c4]at H;have c4b0:=decide_eq_false c4;clear c4;obtain rfl:=Option.some.inj H;go_wp2
     repeat(go_quiet (fail);try go_wp2)
     go_ret;exact⟨by first|rfl| (simp;done) | (simp[*];done),by repeat(first|exact Drawn0.refl _|apply Drawn0.step)⟩
 ·rw[if_neg c3]at H;have c3b0:=beq_eq_false_iff_ne.mpr c3;have c3b1:=bne_iff_ne.mpr c3;have c3b2:(l0.length==l1.length)=false:=by first|simpa using c3| (simp at c3 ⊢;omega)
  obtain rfl:=Option.some.inj H;go_enter Tryz.func30,Tryz.ntmps30
  go_wp2
  repeat(go_quiet (fail);try go_wp2)
  go_ret;exact⟨by first|rfl| (simp;done) | (simp[*];done),by repeat(first|exact Drawn0.refl _|apply Drawn0.step)⟩
theorem IndexFunc_Int.calls(A0:Option Addr)(c0:Nat)(l0:List (Int))(w:World)(g:Nat)(lb:Array Value)(p:Int→Bool)
  (eg: ∀args w,(callFunc g args).run Tryz.prog w= .ok (.enter g args) w)
  (hr0:Kd.C (Kd.int .i64) w A0 l0.length l0)
  (hp: ∀ (W:World) (x:Int) (v:Value),Below w.heap.size w W→Kd.K (Kd.int .i64) W x [v] →x∈l0→FnAny g lb v (p x) W):
  Calls Tryz.prog 86 #[.slice A0 l0.length c0,.func (.func g) #[] lb] w fun e w'=>(∃i:Int,e= .returned (.int .i64 i)∧(decide (0≤i)=l0.any p))∧Below w.heap.size w w':=by
 have HR:=Aside0.mk hr0;have HP:=Aside0.mk hp;have hn:l0.length≤9223372036854775807:=hr0.2.1;clear hr0 hp;go_enter Tryz.func86,Tryz.ntmps86
 go_wp2
 go_loopg [5,8] l0.length (fun gg _ s8 wr=> ∃kk:Nat,kk≤l0.length∧l0.length - kk≤gg∧s8= .int .i64 kk∧Aside0 (Below w.heap.size w wr)∧Aside0 (∀x,x∈l0.take kk→p x=false))
 case atStart=>exact⟨0,Nat.zero_le _,by omega,rfl,⟨Below.refl _ _⟩,⟨by simp⟩⟩
 case round=>
  obtain⟨kk,hkk,hg,rfl,HB,HA⟩:=hrel;by_cases hlt:kk< l0.length
  ·have hltz:(kk:Int)< (l0.length:Int):=by omega
   obtain⟨ad,c,e0,hc1,hK,hc0'⟩:=Kd.C_get (Kd.C_below HR.out HB.out) (0:Int) (kk:Int) (by omega) (by omega);subst e0;obtain⟨v,rfl⟩: ∃v,c= [v] :=by
    match c,(show c.length=1 from hc1)with
    | [v],_=>exact⟨v,rfl⟩
   have hcell:wr.cell? (ad.add kk)=some v:=by
    have:=hc0' 0 v rfl
    rw[show(Kd.int .i64).sz=1 from rfl]at this
    simpa using this
   have hx:l0.getD (Int.toNat kk) (0:Int)=l0[kk] :=by simp[hlt]
   rw[hx]at hK;have hcall:=HP.out wr l0[kk] v HB.out hK (List.getElem_mem _);unfold FnAny at hcall;have HC:=Aside0.mk hcall;clear hcall hc0' hK hx hc1;obtain⟨b,hqq⟩: ∃b,p l0[kk] =b:=⟨_,rfl⟩;rw[hqq]at HC;have Hqq:=Aside0.mk hqq;clear hqq;cases b with
   |true=>
    go_wp2_with fail
    refine HC.out.mono ?_;rintro e w' ⟨rfl,hb⟩;go_wp2_with fail
    go_ret;refine⟨⟨_,rfl,?_⟩,HB.out.trans (hb.mono HB.out.size)⟩;rw[show decide (0≤(kk:Int))=true from by simp];exact(List.any_eq_true.2 ⟨l0[kk],List.getElem_mem _,Hqq.out⟩).symm
   |false=>
    go_wp2_with fail
    refine HC.out.mono ?_;rintro e w' ⟨rfl,hb⟩;go_wp2_with fail
    go_roundg (l0.length - (kk+1))
    case measure=>omega
    case rel=>
     refine⟨kk+1,by omega,by omega,by go_num,⟨HB.out.trans (hb.mono HB.out.size)⟩,⟨fun x hx=>?_⟩⟩;rw[List.take_succ_eq_append_getElem hlt,List.mem_append]at hx;rcases hx with hx|hx
     ·exact HA.out x hx
     ·rw[List.mem_singleton.1 hx];exact Hqq.out
  ·have hltz: ¬ (kk:Int)< (l0.length:Int):=by omega
   have:kk=l0.length:=by omega
   subst this;go_wp2
   go_ret;refine⟨⟨_,rfl,?_⟩,HB.out⟩;rw[List.take_length]at HA;rw[show decide ((0:Int)≤ -1)=false from rfl];exact(List.any_eq_false.2 (fun x hx=>by rw[HA.out x hx];decide)).symm
theorem ContainsFunc_Int.calls(A0:Option Addr)(c0:Nat)(l0:List (Int))(w:World)(g:Nat)(lb:Array Value)(p:Int→Bool)
  (eg: ∀args w,(callFunc g args).run Tryz.prog w= .ok (.enter g args) w)
  (hr0:Kd.C (Kd.int .i64) w A0 l0.length l0)
  (hp: ∀ (W:World) (x:Int) (v:Value),Below w.heap.size w W→Kd.K (Kd.int .i64) W x [v] →x∈l0→FnAny g lb v (p x) W):
  Calls Tryz.prog 62 #[.slice A0 l0.length c0,.func (.func g) #[] lb] w fun e w'=>e= .returned (.bool (l0.any p))∧Below w.heap.size w w':=by
 have HX:=Aside0.mk (IndexFunc_Int.calls A0 c0 l0 w g lb p eg hr0 hp);clear eg hr0 hp;go_enter Tryz.func62,Tryz.ntmps62
 go_wp2_with fail
 refine HX.out.mono ?_;rintro e w' ⟨⟨i,rfl,hi⟩,hb⟩;have Hi:=Aside0.mk hi;clear hi HX;go_wp2_with fail
 go_ret;exact⟨by rw[←Hi.out];rfl,hb⟩
theorem sparse_painted.enters: ∀args w,(callFunc 63 args).run Tryz.prog w= .ok (.enter 63 args) w:=enters_of Tryz.func63 (by kernel_rfl) rfl
theorem sparse_painted.lit(W:World)(x:Int):FnAny 63 #[] (.int .i64 x) (decide (x< 0)) W:=by
 unfold FnAny;go_enter Tryz.func63,Tryz.ntmps63
 go_wp2_with fail
 go_ret;exact⟨rfl,Below.refl _ _⟩
def sparse_painted.f(a0:Int)(l1:List Int):Option Int:=if¬ (l1.length:Int)=a0 then some 2 else if l1.any (fun x=>decide (x< 0))=true then some 2 else some 0
theorem sparse_painted.calls(a0:Int)(A1:Option Addr)(c1:Nat)(l1:List Int)(r:Int)(w:World)(hr1:Kd.C (Kd.int .i64) w A1 l1.length l1)(hc1:l1.length≤c1)(h:sparse_painted.f a0 l1=some r):
  Calls Tryz.prog 35 #[.int .i64 a0,.slice A1 l1.length c1] w fun e w'=>e= .returned (.int .i64 r)∧Below w.heap.size w w':=by
 have HR:=Aside0.mk hr1;clear hr1 hc1;unfold sparse_painted.f at h;by_cases h1: ¬ (l1.length:Int)=a0
 ·rw[if_pos h1]at h;cases h;have hd:((l1.length:Int) !=a0)=true:=bne_iff_ne.2 h1;clear h1;go_enter Tryz.func35,Tryz.ntmps35
  go_wp2_with fail
  go_ret;exact⟨rfl,by repeat(first|exact Below.refl _ _|apply below_alloc|apply pw_below_drewN|apply below_drew1)⟩
 ·rw[if_neg h1]at h;have hd:((l1.length:Int) !=a0)=false:=bne_eq_false_iff_eq.2 (Decidable.of_not_not h1);clear h1;obtain⟨b,hb⟩: ∃b,l1.any (fun x=>decide (x< 0))=b:=⟨_,rfl⟩;rw[hb]at h;have HB:=Aside0.mk hb;clear hb;cases b;all_goals
   cases h;go_enter Tryz.func35,Tryz.ntmps35
   go_wp2_with fail
   refine(ContainsFunc_Int.calls A1 c1 l1 _ 63 _ _ sparse_painted.enters HR.out (fun W x v hW hK _=>by cases hK;exact sparse_painted.lit W x)).mono ?_;rintro e w' ⟨rfl,hb⟩;rw[HB.out];go_wp2_with fail
   go_ret;exact⟨rfl,hb⟩
def sparse_Fits.f(l0:List (List Bool))(a1:Int)(l2:List Int):Option (Bool×Int):=(sparse_form.f l0 a1).bind fun t278=>(if t278=0 then((sparse_painted.f a1 l2).bind fun t279=>(if t279=0 then((sparse_fits.f l0 l2).bind fun t280=>(some (t280,t279)))else(some (false,t279))))else(some (false,t278)))
theorem sparse_Fits.calls(A0:Option Addr)(c0:Nat)(l0:List (List Bool))(a1:Int)(A2:Option Addr)(c2:Nat)(l2:List Int)(r1:Bool)(r2:Int)(w:World)(hr0:Kd.C (Kd.slice 4 Kd.bool) w A0 l0.length l0)(hc0:l0.length≤c0)(hr2:Kd.C (Kd.int .i64) w A2 l2.length l2)(hc2:l2.length≤c2)(h:sparse_Fits.f l0 a1 l2=some (r1,r2)):
  Calls Tryz.prog 32 #[.slice A0 l0.length c0,.int .i64 a1,.slice A2 l2.length c2] w fun e w'=>e= .returned (.tuple #[.bool r1,.int .i64 r2])∧Below w.heap.size w w':=by
 have HR0:=Aside0.mk hr0;have HC0:=Aside0.mk hc0;clear hr0 hc0;have HR2:=Aside0.mk hr2;have HC2:=Aside0.mk hc2;clear hr2 hc2;have HB:=Aside0.mk (Below.refl w.heap.size w);have H:=h;clear h;unfold sparse_Fits.f at H;obtain⟨t278,A4,H⟩:=bO H;(try dsimp only at H);by_cases c5:t278=0
 ·rw[if_pos c5]at H;have c5b0:=beq_iff_eq.mpr c5;have c5b1:=bne_eq_false_iff_eq.mpr c5;clear c5;obtain⟨t279,A6,H⟩:=bO H;(try dsimp only at H);by_cases c7:t279=0
  ·rw[if_pos c7]at H;have c7b0:=beq_iff_eq.mpr c7;have c7b1:=bne_eq_false_iff_eq.mpr c7;clear c7;obtain⟨t280,A8,H⟩:=bO H;(try dsimp only at H);simp only[Option.some.injEq,Prod.mk.injEq]at H;obtain⟨rfl,rfl⟩:=H;go_enter Tryz.func32,Tryz.ntmps32
   go_wp2_with (first| (refine gF 34 ?_;refine gl_ (some 11) Tryz.func34 #[.slice A0 l0.length c0,.int .i64 a1] ?_;(with_reducible refine(sparse_form.calls _ _ l0 a1 t278 _ (cQ (HR0.out)) HC0.out A4.out).mono ?_);rintro e w9 ⟨rfl,hb⟩;refine⟨_,rfl,?_⟩;replace HB:=Aside0.mk (below_step bQ hb);(try clear hb);(try clear hi)) | (refine gF 35 ?_;refine gl_ (some 16) Tryz.func35 #[.int .i64 a1,.slice A2 l2.length c2] ?_;(with_reducible refine(sparse_painted.calls a1 _ _ l2 t279 _ (cbQ HR2 HB) HC2.out A6.out).mono ?_);rintro e w10 ⟨rfl,hb⟩;refine⟨_,rfl,?_⟩;replace HB:=Aside0.mk (below_step bQ hb);(try clear hb);(try clear hi)) | (go_at_call 36;(with_reducible refine(sparse_fits.calls _ _ l0 _ _ l2 t280 _ (cbQ HR0 HB) HC0.out (cbQ HR2 HB) HC2.out A8.out).mono ?_);rintro e w11 ⟨rfl,hb⟩;replace HB:=Aside0.mk (below_step bQ hb);(try clear hb);(try clear hi)))
   go_ret2;exact⟨eQ,bQ⟩
  ·rw[if_neg c7]at H;have c7b0:=beq_eq_false_iff_ne.mpr c7;have c7b1:=bne_iff_ne.mpr c7;simp only[Option.some.injEq,Prod.mk.injEq]at H;obtain⟨rfl,rfl⟩:=H;go_enter Tryz.func32,Tryz.ntmps32
   go_wp2_with (first| (refine gF 34 ?_;refine gl_ (some 11) Tryz.func34 #[.slice A0 l0.length c0,.int .i64 a1] ?_;(with_reducible refine(sparse_form.calls _ _ l0 a1 t278 _ (cQ (HR0.out)) HC0.out A4.out).mono ?_);rintro e w12 ⟨rfl,hb⟩;refine⟨_,rfl,?_⟩;replace HB:=Aside0.mk (below_step bQ hb);(try clear hb);(try clear hi)) | (refine gF 35 ?_;refine gl_ (some 16) Tryz.func35 #[.int .i64 a1,.slice A2 l2.length c2] ?_;(with_reducible refine(sparse_painted.calls a1 _ _ l2 t279 _ (cbQ HR2 HB) HC2.out A6.out).mono ?_);rintro e w13 ⟨rfl,hb⟩;refine⟨_,rfl,?_⟩;replace HB:=Aside0.mk (below_step bQ hb);(try clear hb);(try clear hi)))
   go_ret2;exact⟨eQ,bQ⟩
 ·rw[if_neg c5]at H;have c5b0:=beq_eq_false_iff_ne.mpr c5;have c5b1:=bne_iff_ne.mpr c5;simp only[Option.some.injEq,Prod.mk.injEq]at H;obtain⟨rfl,rfl⟩:=H;go_enter Tryz.func32,Tryz.ntmps32
  go_wp2_with (first| (refine gF 34 ?_;refine gl_ (some 11) Tryz.func34 #[.slice A0 l0.length c0,.int .i64 a1] ?_;(with_reducible refine(sparse_form.calls _ _ l0 a1 t278 _ (cQ (HR0.out)) HC0.out A4.out).mono ?_);rintro e w14 ⟨rfl,hb⟩;refine⟨_,rfl,?_⟩;replace HB:=Aside0.mk (below_step bQ hb);(try clear hb);(try clear hi)))
  go_ret2;exact⟨eQ,bQ⟩
def fluxionlaw19_sample.f:Option ((List (List Bool))):=some (([(([true,true,false,false] :List Bool)),(([false,true,true,false] :List Bool)),(([false,false,true,true] :List Bool))] :List (List Bool)))
theorem fluxionlaw19_sample.calls(r:List (List Bool))(w:World)(h:fluxionlaw19_sample.f=some r):
  Calls Tryz.prog 47 #[] w fun e w'=> ∃v0_:Value,e= .returned (v0_)∧Kd.N (Kd.slice 4 Kd.bool) 77 w' w.heap.size (fun k_=>(w.heap.size≤k_)) v0_ r∧Below w.heap.size w w':=by
 have HB:=Aside0.mk (Below.refl w.heap.size w);have H:(some (([(([true,true,false,false] :List Bool)),(([false,true,true,false] :List Bool)),(([false,false,true,true] :List Bool))] :List (List Bool))))=some r:=h;clear h;obtain⟨y281,hy281⟩: ∃y_:List Bool,y_=(([true,true,false,false] :List Bool)):=⟨_,rfl⟩;(first|replace H:=by_ hy281 H|rw[←hy281]at H);(try dsimp only at H);have Ny281:=Aside0.mk hy281;clear hy281;obtain⟨y284,hy284⟩: ∃y_:List Bool,y_=(([false,true,true,false] :List Bool)):=⟨_,rfl⟩;(first|replace H:=by_ hy284 H|rw[←hy284]at H);(try dsimp only at H);have Ny284:=Aside0.mk hy284;clear hy284;obtain⟨y287,hy287⟩: ∃y_:List Bool,y_=(([false,false,true,true] :List Bool)):=⟨_,rfl⟩;(first|replace H:=by_ hy287 H|rw[←hy287]at H);(try dsimp only at H);have Ny287:=Aside0.mk hy287;clear hy287;obtain⟨y290,hy290⟩: ∃y_:List (List Bool),y_=(([y281,y284,y287] :List (List Bool))):=⟨_,rfl⟩;(first|replace H:=by_ hy290 H|rw[←hy290]at H);(try dsimp only at H);have Ny290:=Aside0.mk hy290;clear hy290;obtain rfl:=Option.some.inj H;go_enter Tryz.func47,Tryz.ntmps47
 go_wp2_with (first| (refine gD 1 ?_;refine li_ Kd.bool 4 1 ([true,true,false,false] :List Bool) [.bool true,.bool true,.bool false,.bool false] (Reps.one (show Kd.M Kd.bool _ _ _ true [.bool true]from rfl) (Reps.one (show Kd.M Kd.bool _ _ _ true [.bool true]from rfl) (Reps.one (show Kd.M Kd.bool _ _ _ false [.bool false]from rfl) (Reps.one (show Kd.M Kd.bool _ _ _ false [.bool false]from rfl) (Reps.none _ _))))) ?_;intro v282 w1 ho2 hb hg_ hnew_;clear hg_ hnew_;(first|rw[←Ny281.out]at ho2| (simp only[Int.reduceToNat]at ho2;rw[←Ny281.out]at ho2));have HO283:=Aside0.mk (Kd.R_lower (Kd.R_newM (M:=fun k_=>(w.heap.size≤k_)) ho2 (below_size bQ) (fun k_ h_=>h_)) (below_size bQ));replace HB:=hsQ hb;clear hb ho2) | (refine gD 2 ?_;refine li_ Kd.bool 4 2 ([false,true,true,false] :List Bool) [.bool false,.bool true,.bool true,.bool false] (Reps.one (show Kd.M Kd.bool _ _ _ false [.bool false]from rfl) (Reps.one (show Kd.M Kd.bool _ _ _ true [.bool true]from rfl) (Reps.one (show Kd.M Kd.bool _ _ _ true [.bool true]from rfl) (Reps.one (show Kd.M Kd.bool _ _ _ false [.bool false]from rfl) (Reps.none _ _))))) ?_;intro v285 w3 ho4 hb hg_ hnew_;clear hg_ hnew_;(first|rw[←Ny284.out]at ho4| (simp only[Int.reduceToNat]at ho4;rw[←Ny284.out]at ho4));have HO286:=Aside0.mk (Kd.R_lower (Kd.R_new' (Kd.R_newM (M:=fun k_=>(w.heap.size≤k_)) ho4 (below_size bQ) (fun k_ h_=>h_)) (Kd.R_lt (pRQ HO283.out))) (below_size bQ));replace HO283:=Aside0.mk (Kd.R_elder' (pRQ HO283.out) (Kd.R_base ho4) hb);replace HB:=hsQ hb;clear hb ho4) | (refine gD 3 ?_;refine li_ Kd.bool 4 3 ([false,false,true,true] :List Bool) [.bool false,.bool false,.bool true,.bool true] (Reps.one (show Kd.M Kd.bool _ _ _ false [.bool false]from rfl) (Reps.one (show Kd.M Kd.bool _ _ _ false [.bool false]from rfl) (Reps.one (show Kd.M Kd.bool _ _ _ true [.bool true]from rfl) (Reps.one (show Kd.M Kd.bool _ _ _ true [.bool true]from rfl) (Reps.none _ _))))) ?_;intro v288 w5 ho6 hb hg_ hnew_;clear hg_ hnew_;(first|rw[←Ny287.out]at ho6| (simp only[Int.reduceToNat]at ho6;rw[←Ny287.out]at ho6));have HO289:=Aside0.mk (Kd.R_lower (Kd.R_new' (Kd.R_new' (Kd.R_newM (M:=fun k_=>(w.heap.size≤k_)) ho6 (below_size bQ) (fun k_ h_=>h_)) (Kd.R_lt (pRQ HO283.out))) (Kd.R_lt (pRQ HO286.out))) (below_size bQ));replace HO283:=Aside0.mk (Kd.R_elder' (pRQ HO283.out) (Kd.R_base ho6) hb);replace HO286:=Aside0.mk (Kd.R_elder' (pRQ HO286.out) (Kd.R_base ho6) hb);replace HB:=hsQ hb;clear hb ho6;obtain⟨Ao7,co7,eo7⟩:=Kd.R_slice HO283.out;subst eo7;obtain⟨Ao8,co8,eo8⟩:=Kd.R_slice HO286.out;subst eo8;obtain⟨Ao9,co9,eo9⟩:=Kd.R_slice HO289.out;subst eo9) | (refine gD 4 ?_;refine Kd.N_lit (Kd.slice 4 Kd.bool) _ 77 ?hg (N':=4) ?hd (xs:=([y281,y284,y287] :List (List Bool))) (inner:= [.slice Ao7 y281.length co7,.slice Ao8 y284.length co8,.slice Ao9 y287.length co9]) (ok:=(fun k_=>(w.heap.size≤k_))) (okp:=(fun k_=>(w.heap.size≤k_))) ?hr ?hp (fun _ hk=>hk) ((show∀k_,w5.heap.size≤k_→(fun k_=>(w.heap.size≤k_)) k_ from fun k_ hk=>(Nat.le_trans (below_size bQ) hk)) _ (Nat.le_refl _)) (Below.refl _ _) (Nat.le_refl _) (by simp) ?_;(case hd=>rfl);(case hg=>rfl);(case hr=>first| (go_simp;done) | (go_simp;rfl));(case hp=>exact(Reps.one (show Kd.FK (Kd.slice 4 Kd.bool) _ _ y281 [.slice Ao7 y281.length co7]from(Kd.FK_slice_mk (Kd.R_reads' (Kd.R_mono (ok':=(fun k_=>(w.heap.size≤k_))) (HO283.out) (fun k_ hk=>hk.1.1.1))).2.1 (Kd.R_F (Kd.R_mono (ok':=(fun k_=>(w.heap.size≤k_))) (HO283.out) (fun k_ hk=>hk.1.1.1))))) (Reps.one (show Kd.FK (Kd.slice 4 Kd.bool) _ _ y284 [.slice Ao8 y284.length co8]from(Kd.FK_slice_mk (Kd.R_reads' (Kd.R_mono (ok':=(fun k_=>(w.heap.size≤k_))) (HO286.out) (fun k_ hk=>hk.1.1.1))).2.1 (Kd.R_F (Kd.R_mono (ok':=(fun k_=>(w.heap.size≤k_))) (HO286.out) (fun k_ hk=>hk.1.1.1))))) (Reps.one (show Kd.FK (Kd.slice 4 Kd.bool) _ _ y287 [.slice Ao9 y287.length co9]from(Kd.FK_slice_mk (Kd.R_reads' (Kd.R_mono (ok':=(fun k_=>(w.heap.size≤k_))) (HO289.out) (fun k_ hk=>hk.1.1.1))).2.1 (Kd.R_F (Kd.R_mono (ok':=(fun k_=>(w.heap.size≤k_))) (HO289.out) (fun k_ hk=>hk.1.1.1))))) (Reps.none _ _)))));intro v291 w10 ho11 hb hg_ hnew_;clear hg_ hnew_;(first|rw[←Ny290.out]at ho11| (simp only[Int.reduceToNat]at ho11;rw[←Ny290.out]at ho11));have HO292:=Aside0.mk (Kd.N_lower ho11 (below_size bQ));replace HB:=hsQ hb;clear HO283 HO286 HO289;clear hb ho11))
 go_ret;exact⟨_,eQ,nX (h:=HO292.out),bQ⟩
mutual
def sparse_Widest.l0:Nat→Int→List (List Bool)→Int→Int→Option (Int×Int)
 |0,_,_,_,_=>none
 |k+1,x7,x19,x20,x21=>if x21< x20 then(if 0≤x21 then(if x21< (x19.length:Int)then(sparse_Widest.l1 k x7 0 x19 x20 x21 (rd_L6 x19 x21) ((rd_L6 x19 x21).length:Int) 0)else(none))else(none))else(some (x7,0))
def sparse_Widest.l1:Nat→Int→Int→List (List Bool)→Int→Int→List Bool→Int→Int→Option (Int×Int)
 |0,_,_,_,_,_,_,_,_=>none
 |k+1,x7,x10,x19,x20,x21,x25,x26,x27=>if x27< x26 then(if 0≤x27 then(if x27< (x25.length:Int)then(if rdOf false x25 x27=true then(sparse_Widest.l1 k x7 (wrap64 (x10+1)) x19 x20 x21 x25 x26 (wrap64 (x27+1)))else(sparse_Widest.l1 k x7 x10 x19 x20 x21 x25 x26 (wrap64 (x27+1))))else(none))else(none))else(sparse_Widest.l0 k (mx x7 x10) x19 x20 (wrap64 (x21+1)))
end
def sparse_Widest.f(k:Nat)(l0:List (List Bool))(a1:Int):Option (Int×Int):=(sparse_form.f l0 a1).bind fun t293=>(if t293=0 then(sparse_Widest.l0 k 0 l0 (l0.length:Int) 0)else(some (0,t293)))
theorem sparse_Widest.calls(k:Nat)(A0:Option Addr)(c0:Nat)(l0:List (List Bool))(a1:Int)(r1:Int)(r2:Int)(w:World)(hr0:Kd.C (Kd.slice 4 Kd.bool) w A0 l0.length l0)(hc0:l0.length≤c0)(h:sparse_Widest.f k l0 a1=some (r1,r2)):
  Calls Tryz.prog 48 #[.slice A0 l0.length c0,.int .i64 a1] w fun e w'=>e= .returned (.tuple #[.int .i64 r1,.int .i64 r2])∧Below w.heap.size w w':=by
 have HR0:=Aside0.mk hr0;have HC0:=Aside0.mk hc0;clear hr0 hc0;have HB:=Aside0.mk (Below.refl w.heap.size w);have H:=h;clear h;unfold sparse_Widest.f at H;obtain⟨t293,A3,H⟩:=bO H;(try dsimp only at H);by_cases c4:t293=0
 ·rw[if_pos c4]at H;have c4b0:=beq_iff_eq.mpr c4;have c4b1:=bne_eq_false_iff_eq.mpr c4;clear c4;have H':=Aside0.mk H;clear H;go_enter Tryz.func48,Tryz.ntmps48
  go_wp2_with (first| (refine gF 34 ?_;refine gl_ (some 15) Tryz.func34 #[.slice A0 l0.length c0,.int .i64 a1] ?_;(with_reducible refine(sparse_form.calls _ _ l0 a1 t293 _ (cQ (HR0.out)) HC0.out A3.out).mono ?_);rintro e w5 ⟨rfl,hb⟩;refine⟨_,rfl,?_⟩;replace HB:=Aside0.mk (below_step bQ hb);(try clear hb);(try clear hi)))
  go_loopg [7,21] k (fun kq v7 v21 w'=> ∃ (x7_1:Int) (x21_1:Int),v7= .int .i64 x7_1∧v21= .int .i64 x21_1∧Aside0 (sparse_Widest.l0 kq x7_1 l0 (l0.length:Int) x21_1=some (r1,r2))∧Aside0 (kq≤k)∧Aside0 (Below w.heap.size w w'))
  case atStart=>exact⟨(0),(0),eS,eS,H',⟨Nat.le_refl _⟩,⟨bQ⟩⟩
  case round=>
   clear H';(try clear p2);(try clear c3);(try clear c4);(try clear c4b0);(try clear c4b1);obtain⟨x7_1,x21_1,rfl,rfl,HA,HK1,HB⟩:=hrel;cases gk with
   |zero=>exact absurd HA.out (by simp[sparse_Widest.l0])
   |succ k1=>
    have H:=HA.out;clear HA;simp only[sparse_Widest.l0]at H;by_cases c6:x21_1< (l0.length:Int)
    ·rw[if_pos c6]at H;have c6b0:=decide_eq_true c6;clear c6;replace H:=iN H;obtain⟨c7,H⟩:=H;have c7b0:=decide_eq_true c7;clear c7;replace H:=iN H;obtain⟨c8,H⟩:=H;have c8b0:=decide_eq_true c8;clear c8;have H':=Aside0.mk H;clear H;have p294:0≤(x21_1:Int):=dQ;have q294:x21_1< (l0.length:Int):=dQ;obtain⟨ad294,A294_0,c294_0,e294,hx294_0,hl294_0,hi294_0⟩:=at_L6 HR0.out x21_1 p294 q294;cases e294;replace hx294_0:=cE HB.out hx294_0;have HR294_0:=Aside0.mk hi294_0;have HC294_0:=Aside0.mk hl294_0;clear hi294_0 hl294_0;replace p294:=eq_true p294;replace q294:=eq_true q294;go_wp2
     go_loopg [10,27] k1 (fun kq v10 v27 w'=> ∃ (x10_2:Int) (x27_2:Int),v10= .int .i64 x10_2∧v27= .int .i64 x27_2∧Aside0 (sparse_Widest.l1 kq x7_1 x10_2 l0 (l0.length:Int) x21_1 (rd_L6 l0 x21_1) ((rd_L6 l0 x21_1).length:Int) x27_2=some (r1,r2))∧Aside0 (kq≤k1)∧Aside0 (Below w.heap.size w w'))
     case atStart=>exact⟨(0),(0),eS,eS,H',⟨Nat.le_refl _⟩,⟨bQ⟩⟩
     case round=>
      clear H';(try clear c2);(try clear p2);(try clear q2);(try clear hx2);(try clear c3);(try clear c4);(try clear c4b0);(try clear c4b1);(try clear c6);(try clear c6b0);(try clear c7);(try clear c7b0);(try clear c8);(try clear c8b0);(try clear hx294_0);(try clear p2);(try clear p294);(try clear q294);obtain⟨x10_2,x27_2,rfl,rfl,HA,HK2,HB⟩:=hrel;cases gk with
      |zero=>exact absurd HA.out (by simp[sparse_Widest.l1])
      |succ k2=>
       have H:=HA.out;clear HA;simp only[sparse_Widest.l1]at H;by_cases c9:x27_2< ((rd_L6 l0 x21_1).length:Int)
       ·rw[if_pos c9]at H;have c9b0:=decide_eq_true c9;clear c9;replace H:=iN H;obtain⟨c10,H⟩:=H;have c10b0:=decide_eq_true c10;clear c10;replace H:=iN H;obtain⟨c11,H⟩:=H;have c11b0:=decide_eq_true c11;clear c11;obtain⟨bq12,hbq12⟩: ∃b_:Bool,b_=(rdOf false (rd_L6 l0 x21_1) x27_2):=⟨_,rfl⟩;replace H:(if bq12=true then(sparse_Widest.l1 k2 x7_1 (wrap64 (x10_2+1)) l0 (l0.length:Int) x21_1 (rd_L6 l0 x21_1) ((rd_L6 l0 x21_1).length:Int) (wrap64 (x27_2+1)))else(sparse_Widest.l1 k2 x7_1 x10_2 l0 (l0.length:Int) x21_1 (rd_L6 l0 x21_1) ((rd_L6 l0 x21_1).length:Int) (wrap64 (x27_2+1))))=some (r1,r2):=by rw[←hbq12]at H;exact H
        have Nbq12:=Aside0.mk hbq12;clear hbq12;by_cases c13:bq12=true
        ·subst c13;rw[if_pos rfl]at H;have H':=Aside0.mk H;clear H;have p295:0≤(x27_2:Int):=dQ;have q295:x27_2< ((rd_L6 l0 x21_1).length:Int):=dQ;obtain⟨ad295,e295,hx295_0⟩:=Kd.at_bool HR294_0.out x27_2 p295 q295;(try rw[←Nbq12.out]at hx295_0);cases e295;replace hx295_0:=cE HB.out hx295_0;replace p295:=eq_true p295;replace q295:=eq_true q295;go_wp2
         go_roundg k2
         case measure=>have:=HK1.out;have:=HK2.out;omega
         case rel=>exact⟨(wrap64 (x10_2+1)),(wrap64 (x27_2+1)),eS,eS,H',⟨by have:=HK1.out;have:=HK2.out;omega⟩,⟨bQ⟩⟩
        ·replace c13:=Bool.eq_false_iff.mpr c13;subst c13;rw[if_neg nF]at H;have H':=Aside0.mk H;clear H;have p295:0≤(x27_2:Int):=dQ;have q295:x27_2< ((rd_L6 l0 x21_1).length:Int):=dQ;obtain⟨ad295,e295,hx295_0⟩:=Kd.at_bool HR294_0.out x27_2 p295 q295;(try rw[←Nbq12.out]at hx295_0);cases e295;replace hx295_0:=cE HB.out hx295_0;replace p295:=eq_true p295;replace q295:=eq_true q295;go_wp2
         go_roundg k2
         case measure=>have:=HK1.out;have:=HK2.out;omega
         case rel=>exact⟨(x10_2),(wrap64 (x27_2+1)),eS,eS,H',⟨by have:=HK1.out;have:=HK2.out;omega⟩,⟨bQ⟩⟩
       ·rw[if_neg c9]at H;have c9b0:=decide_eq_false c9;clear c9;obtain⟨ji14,hji14⟩: ∃j_:Int,(mx x7_1 x10_2)=j_:=⟨_,rfl⟩;(first|rw[hji14]at H|simp only[hji14]at H);have hji14_:(if x7_1< x10_2 then x10_2 else x7_1)=ji14:=hji14;have H':=Aside0.mk H;clear H;go_wp2
        go_roundg k2
        case measure=>have:=HK1.out;have:=HK2.out;omega
        case rel=>exact⟨(ji14),(wrap64 (x21_1+1)),(by first|rfl| (simp;done) | (simp only[←hji14] <;>(first|rfl|simp)) | (simp[*];done)),eS,H',⟨by have:=HK1.out;have:=HK2.out;omega⟩,⟨bQ⟩⟩
    ·rw[if_neg c6]at H;have c6b0:=decide_eq_false c6;clear c6;simp only[Option.some.injEq,Prod.mk.injEq]at H;obtain⟨rfl,rfl⟩:=H;go_wp2
     go_ret2;exact⟨eQ,bQ⟩
 ·rw[if_neg c4]at H;have c4b0:=beq_eq_false_iff_ne.mpr c4;have c4b1:=bne_iff_ne.mpr c4;simp only[Option.some.injEq,Prod.mk.injEq]at H;obtain⟨rfl,rfl⟩:=H;go_enter Tryz.func48,Tryz.ntmps48
  go_wp2_with (first| (refine gF 34 ?_;refine gl_ (some 15) Tryz.func34 #[.slice A0 l0.length c0,.int .i64 a1] ?_;(with_reducible refine(sparse_form.calls _ _ l0 a1 t293 _ (cQ (HR0.out)) HC0.out A3.out).mono ?_);rintro e w15 ⟨rfl,hb⟩;refine⟨_,rfl,?_⟩;replace HB:=Aside0.mk (below_step bQ hb);(try clear hb);(try clear hi)))
  go_ret2;exact⟨eQ,bQ⟩
def fluxionref02_Fault.f(a0:Int):Option (Int×Bool×List Int×List Int):=some (a0,false,([] :List Int),([] :List Int))
theorem fluxionref02_Fault.calls(a0:Int)(r1:Int)(r2:Bool)(r3:List Int)(r4:List Int)(w:World)(h:fluxionref02_Fault.f a0=some (r1,r2,r3,r4)):
  Calls Tryz.prog 80 #[.int .i64 a0] w fun e w'=> ∃v2_ v3_:Value,e= .returned (.agg #[.int .i64 r1,.bool r2,v2_,v3_])∧Kd.R (Kd.int .u32) 60 w' w.heap.size (fun k_=>some k_≠(v3_:Value).ownBlock) v2_ r3∧Kd.R (Kd.int .u32) 60 w' w.heap.size (fun k_=>some k_≠(v2_:Value).ownBlock) v3_ r4∧Below w.heap.size w w':=by
 have hu59:=Tryz.underlying59;have HB:=Aside0.mk (Below.refl w.heap.size w);have H:=h;clear h;unfold fluxionref02_Fault.f at H;simp only[Option.some.injEq,Prod.mk.injEq]at H;obtain⟨rfl,rfl,rfl,rfl⟩:=H;go_enter Tryz.func80,Tryz.ntmps80
 go_wp2_with (first| (refine gD 2 ?_;refine bx_ 2 #[.int .i64 0,.bool false,.slice none 0 0,.slice none 0 0] 59 ?_;intro gb296 hg w2 hbox hb;have BK296:=Aside0.mk hbox;have GW296:=Aside0.mk (gQ w hg);have GE296:=Aside0.mk (gQ w hg);replace HB:=hsQ hb;clear hb hbox hg;obtain⟨_,_,_,_,_,_,_,_⟩:=c4Q BK296.out))
 refine bodyPost_ret (results_cell_row rfl _ _ gb296 59 #[.int .i64 a0,.bool false,.slice none 0 0,.slice none 0 0] (0,0) _ rfl (bU 3 (h:=bU 2 (h:=bU 1 (h:=bU 0 (h:=bV (h:=BK296.out)))))) Tryz.underlying59 rfl (by kernel_rfl)) rfl ?_;exact⟨(.slice none 0 0),(.slice none 0 0),eQ,by first|exact Kd.R_nil _ _ _ _ _|exact Kd.N_nil _ _ _ _ _|exact Kd.V_nil _ _ _ _ _|exact Kd.Q_nil _ _ _ _ _|exact Kd.S_nil _ _ _ _ _,by first|exact Kd.R_nil _ _ _ _ _|exact Kd.N_nil _ _ _ _ _|exact Kd.V_nil _ _ _ _ _|exact Kd.Q_nil _ _ _ _ _|exact Kd.S_nil _ _ _ _ _,bQ⟩
end Go.Proofs.YtjjbondlcjnaiaaGreat.PSparseSeeds
