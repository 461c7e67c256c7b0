-- written by a program of this session, after the kit's print
import Derived.Test.YtjjbondlcjnaiaaDoorPSparseJoinedx9
import Derived.Test.YtjjbondlcjnaiaaDoorPSparseJoinedx10
namespace Go.Proofs.YtjjbondlcjnaiaaDoor.PSparseJoined
open Go.RowKit Go.Proofs.YtjjbondlcjnaiaaDoorW.PrintWords Go.Proofs.YtjjbondlcjnaiaaDoorW.PrintLast Go.Proofs.YtjjbondlcjnaiaaDoorW.PrintMore
set_option maxHeartbeats 8000000
set_option maxRecDepth 100000
attribute [local go_sem] max2_int min2_int max_two min_two max_three min_three max_four min_four
set_option linter.unusedVariables false
set_option linter.unusedSimpArgs false
section
open Go.Maps
theorem infoRat:(Tryd.prog.info? 42).map (fun i=>(i.zero,i.size,i.bytes))=some (some (.agg #[.int .i64 0,.bool false,.slice none 0 0,.slice none 0 0]),4,64):=by kernel_rfl
theorem infoRats:(Tryd.prog.info? 63).map (fun i=>(i.zero,i.size,i.bytes))=some (some (.slice none 0 0),1,24):=by kernel_rfl
structure RowsAt {α:Type} (d:Kd α) (e1 e2:Nat) (w:World) (base g cap m c H0:Nat) (cs:List Value) (done:List (List α)) (part:List α):Prop where
 row:w.ownsRow base e2 1 (.slice (some ⟨g,0,none⟩) m cap) m (encs (fun v:Value=>v) cs)
 hg:g< H0
 hw:H0≤w.heap.size
 hb:base≤H0
 len:cs.length=m
 dlen:done.length=c
 old: ∀ (j:Nat) (x:List α) (u:Value),done[j]? =some x→cs[j]? =some u→Kd.FK (Kd.slice e1 d) w (fun k=>(base≤k∧k< H0)∧k≠g) x [u]
 now:c< m→ ∃vc,cs[c]? =some vc∧Kd.N d e1 w H0 (fun k=>H0≤k) vc part
 nils: ∀j,c< j→j< m→cs[j]? =some (.slice none 0 0)
theorem RowsAt.below{α:Type}{d:Kd α}{e1 e2:Nat}{w w1:World}{base g cap m c H0:Nat}{cs:List Value}{done:List (List α)}{part:List α}(h:RowsAt d e1 e2 w base g cap m c H0 cs done part)(hb:Below w.heap.size w w1):RowsAt d e1 e2 w1 base g cap m c H0 cs done part:=by
 refine⟨own_move h.row (fun k hk=>?_),h.hg,Nat.le_trans h.hw hb.size,h.hb,h.len,h.dlen,fun j x u hx hu=>Kd.FK_below (h.old j x u hx hu) hb,fun hc=>?_,h.nils⟩
 ·exact hb.block k (h.row.lt k hk).2
 ·obtain⟨vc,hv,hN⟩:=h.now hc;exact⟨vc,hv,Kd.N_below hN hb⟩
theorem RowsAt.cell{α:Type}{d:Kd α}{e1 e2:Nat}{w:World}{base g cap m c H0:Nat}{cs:List Value}{done:List (List α)}{part:List α}(h:RowsAt d e1 e2 w base g cap m c H0 cs done part){j:Nat}{u:Value}(hj:cs[j]? =some u):w.cell? ⟨g,j,none⟩=some u∧w.frozen? ⟨g,j,none⟩=false:=by
 have hlt:=(List.getElem?_eq_some_iff.1 hj).1;have h1:=own_at_of (d:=Value.bool false) h.row (j:Int) (by omega) (by have:=h.len;omega);rw[Int.toNat_natCast]at h1;have e:rdOf (Value.bool false) cs (j:Int)=u:=by simp[rdOf,List.getD_eq_getElem?_getD,hj]
 rw[e]at h1;exact h1
theorem RowsAt.put{α:Type}{d:Kd α}{e1 e2:Nat}{w w1:World}{base g cap m c H0:Nat}{cs:List Value}{done:List (List α)}{part part':List α}(h:RowsAt d e1 e2 w base g cap m c H0 cs done part)(hc:c< m){vc v1:Value}(hvc:cs[c]? =some vc)
  (hg:w.grownBy w1 vc.ownBlock) (hvo: ∀k,vc.ownBlock=some k→H0≤k) (hN:Kd.N d e1 w1 H0 (fun k=>H0≤k) v1 part'):
  RowsAt d e1 e2 (w1.setCell ⟨g,c,none⟩ v1) base g cap m c H0 (cs.set c v1) done part':=by
 have hgh:=h.hg;have h1:w1.ownsRow base e2 1 (.slice (some ⟨g,0,none⟩) m cap) m (encs (fun v:Value=>v) cs):=own_move h.row (fun k hk=>by
  have e:g=k:=by simpa [Value.ownBlock]using hk
  subst e;exact hg.block g (h.row.lt g hk).2 (fun e=>by have:=hvo g e.symm;omega))
 obtain⟨h2,h3⟩:=own_store_of h1 (c:Int) v1;rw[Int.toNat_natCast]at h2 h3;refine⟨h2,h.hg,Nat.le_trans (Nat.le_trans h.hw hg.size) h3.size,h.hb,by rw[List.length_set];exact h.len,h.dlen,fun j x u hx hu=>?_,fun _=>⟨v1,by rw[List.getElem?_set_self (by rw[h.len];exact hc)],?_⟩,fun j hj hm=>by rw[List.getElem?_set_ne (by omega)];exact h.nils j hj hm⟩
 ·have hj:j< c:=by have:=(List.getElem?_eq_some_iff.1 hx).1;rw[h.dlen]at this;exact this
  rw[List.getElem?_set_ne (by omega)]at hu;refine Kd.FK_step (Kd.FK_step (h.old j x u hx hu) (fun k hk hlt=>hg.block k hlt (fun e=>?_))) (fun k hk hlt=>Below.heap_setCell _ _ _ k hk.2)
  have:=hvo k e.symm
  omega
 ·exact Kd.N_step hN (fun k hk hlt=>Below.heap_setCell _ _ _ k (fun e=>by have hk:H0≤k:=hk;have e:k=g:=e;omega))
theorem RowsAt.next{α:Type}{d:Kd α}{e1 e2:Nat}{w:World}{base g cap m c H0:Nat}{cs:List Value}{done:List (List α)}{part:List α}(h:RowsAt d e1 e2 w base g cap m c H0 cs done part)(hc:c< m):
  RowsAt d e1 e2 w base g cap m (c+1) w.heap.size cs (done++ [part]) [] :=by
 have hgh:=h.hg;have hwh:=h.hw;have hbh:=h.hb;obtain⟨vc,hvc,hN⟩:=h.now hc;refine⟨h.row,Nat.lt_of_lt_of_le h.hg h.hw,Nat.le_refl _,Nat.le_trans h.hb h.hw,h.len,by rw[List.length_append,h.dlen];rfl,fun j x u hx hu=>?_,fun hc1=>⟨_,h.nils (c+1) (by omega) hc1,Kd.N_nil _ _ _ _ _⟩,fun j hj hm=>h.nils j (by omega) hm⟩;have hj:j< c+1:=by have:=(List.getElem?_eq_some_iff.1 hx).1;rw[List.length_append,h.dlen]at this;exact this
 by_cases e:j=c
 ·subst e;rw[List.getElem?_append_right (by rw[h.dlen];exact Nat.le_refl _),h.dlen,Nat.sub_self]at hx;have hx':part=x:=by simpa using hx
  subst hx';rw[hvc]at hu;cases hu;obtain⟨A,cp,rfl,hl,hF⟩:=Kd.N_V (base':=0) hN;refine Kd.FK_mono (Kd.FK_bound (W:=w) (ok:=fun k=>H0≤k) (fun W' hW=>⟨A,cp,rfl,hl,hF W' hW⟩)) (fun k hk=>⟨⟨by omega,hk.2⟩,by omega⟩)
 ·rw[List.getElem?_append_left (by rw[h.dlen];omega)]at hx;exact Kd.FK_mono (h.old j x u hx hu) (fun k hk=>⟨⟨hk.1.1,by omega⟩,hk.2⟩)
theorem RowsAt.done{α:Type}{d:Kd α}{e1 e2:Nat}{w:World}{base g cap m H0:Nat}{cs:List Value}{done:List (List α)}{part:List α}(h:RowsAt d e1 e2 w base g cap m m H0 cs done part):
  Kd.N (Kd.slice e1 d) e2 w base (fun k=>base≤k) (.slice (some ⟨g,0,none⟩) m cap) done:=by
 have hlt:=h.row.lt g (by simp[Value.ownBlock]);have hl:=h.len;have hdl:=h.dlen;refine⟨fun k hk=>?_,cs.map (fun u=> [u]),by rw[List.length_map,hl,hdl],⟨fun k hk=>hk.symm,encs (fun v=>v) cs,?_,?_⟩,fun j x c hx hc=>?_⟩
 ·have e:g=k:=by simpa [Value.ownBlock]using hk
  subst e;exact hlt.1
 ·rw[List.length_map,hl];exact h.row
 ·refine⟨by simp[encs,Kd.raw,Kd.slice],fun j p hp=>?_⟩;rw[List.getElem?_map]at hp;obtain⟨u,hu,rfl⟩:=Option.map_eq_some_iff.1 hp;have hju:=(List.getElem?_eq_some_iff.1 hu);obtain⟨hjl,hju⟩:=hju;have he:((encs (fun v:Value=>v) cs).drop (j * (Kd.raw (Kd.slice e1 d).sz).sz)).take (Kd.raw (Kd.slice e1 d).sz).sz= [u] :=by
   have e0:encs (fun v:Value=>v) cs=cs:=by simp[encs]
   rw[e0,show(Kd.raw (Kd.slice e1 d).sz).sz=1 from rfl,Nat.mul_one,List.drop_eq_getElem_cons hjl,List.take_succ_cons,List.take_zero,hju]
  rw[he];obtain⟨x,hx⟩: ∃x,done[j]? =some x:=⟨_,List.getElem?_eq_getElem (by rw[hdl,←hl];exact hjl)⟩;have hk:=Kd.FK_now (h.old j x u hx hu);exact⟨rfl,rfl,Kd.K_one _ hk⟩
 ·rw[List.getElem?_map]at hc;obtain⟨u,hu,rfl⟩:=Option.map_eq_some_iff.1 hc;refine Kd.FK_mono (h.old j x u hx hu) (fun k hk=>⟨hk.1.1,fun e=>hk.2 ?_⟩)
  simpa [Value.ownBlock]using e
theorem RowsAt.lt{α:Type}{d:Kd α}{e1 e2:Nat}{w:World}{base g cap m c H0:Nat}{cs:List Value}{done:List (List α)}{part:List α}(h:RowsAt d e1 e2 w base g cap m c H0 cs done part):base≤g:=(h.row.lt g (by simp[Value.ownBlock])).1
theorem RowsAt.after{α:Type}{d:Kd α}{e1 e2:Nat}{w w1:World}{base g cap m c H0:Nat}{cs:List Value}{done:List (List α)}{part:List α}(h:RowsAt d e1 e2 w base g cap m c H0 cs done part){row:Option Nat}(hg:w.grownBy w1 row)(hvo: ∀k,row=some k→H0≤k){j:Nat}{u:Value}(hj:cs[j]? =some u):w1.cell? ⟨g,j,none⟩=some u∧w1.frozen? ⟨g,j,none⟩=false:=by
 have hgh:=h.hg;have hlt:=(List.getElem?_eq_some_iff.1 hj).1;have h1:w1.ownsRow base e2 1 (.slice (some ⟨g,0,none⟩) m cap) m (encs (fun v:Value=>v) cs):=own_move h.row (fun k hk=>by
  have e:g=k:=by simpa [Value.ownBlock]using hk
  subst e;exact hg.block g (h.row.lt g hk).2 (fun e=>by have:=hvo g e.symm;omega))
 have h2:=own_at_of (d:=Value.bool false) h1 (j:Int) (by omega) (by have:=h.len;omega);rw[Int.toNat_natCast]at h2;have e:rdOf (Value.bool false) cs (j:Int)=u:=by simp[rdOf,List.getD_eq_getElem?_getD,hj]
 rw[e]at h2;exact h2
theorem N_own_ge{α:Type}{d:Kd α}{e:Nat}{w:World}{H0:Nat}{v:Value}{xs:List α}(h:Kd.N d e w H0 (fun k=>H0≤k) v xs): ∀k,v.ownBlock=some k→H0≤k:=h.1
def seedRow(k:Nat)(c:Int):List Int→List S42→Option (List S42)
 | [],acc=>some acc
 |d::l,acc=>(sparse_whole.f k (if c=d then 1 else 0)).bind fun t=>seedRow k c l (acc++ [⟨t.1,t.2.1,t.2.2.1,t.2.2.2⟩])
def seedRows(k:Nat)(l0:List Int):Nat→Nat→List (List S42)→Option (List (List S42))
 |0,_,acc=>some acc
 |n+1,c,acc=>(seedRow k (c:Int) l0 []).bind fun row=>seedRows k l0 n (c+1) (acc++ [row])
def sparse_seeds.f(k:Nat)(l0:List Int)(a1:Int):Option (List (List S42)):=if(decide (0≤a1) && decide (a1≤1000000) && decide (l0.length≤1000000))=true then seedRows k l0 a1.toNat 0 []else none
theorem sparse_seeds.calls(k:Nat)(A0:Option Addr)(c0:Nat)(l0:List Int)(a1:Int)(r:List (List S42))(w:World)(hr0:Kd.C (Kd.int .i64) w A0 l0.length l0)(hc0:l0.length≤c0)(h:sparse_seeds.f k l0 a1=some r):
  Calls Tryd.prog 39 #[.slice A0 l0.length c0,.int .i64 a1] w fun e w'=> ∃v0_:Value,e= .returned (v0_)∧Kd.N (Kd.slice 42 k42) 63 w' w.heap.size (fun k_=>(w.heap.size≤k_)) v0_ r∧Below w.heap.size w w':=by
 have HR0:=Aside0.mk hr0;have hn0:l0.length≤9223372036854775807:=hr0.2.1;clear hr0 hc0;unfold sparse_seeds.f at h;split at h
 case isFalse=>cases h
 case isTrue hok=>
 simp only[Bool.and_eq_true,decide_eq_true_eq]at hok;obtain⟨⟨ha0,ha1⟩,hl0⟩:=hok;obtain⟨m,rfl⟩:=Int.eq_ofNat_of_zero_le ha0;rw[Int.toNat_natCast]at h;have H0:=Aside0.mk h;clear h;have hm1:m≤1000000:=by omega
 go_enter Tryd.func39,Tryd.ntmps39
 go_wp2_with (refine gD 11 ?_;refine Kd.R_make (Kd.scalar (fun v:Value=>Value.slice none 0 0) (fun _=>rfl)) _ 63 rfl (N:=11) rfl 55 _ _ rfl (m:Int) rfl rfl Tryd.underlying55 (.slice none 0 0) 24 infoRats rfl (by decide) (by omega) (.slice none 0 0) (ok:=fun _=>True) (okp:=fun _=>True) rfl (fun _ hk=>hk) trivial (by omega) (by omega) (Below.refl _ _) (Nat.le_refl _) ?_;intro v1 w1 ho hb _ hnew;have ho2:=Kd.own_of_R ho;rw[List.length_replicate,Int.toNat_natCast]at ho2;obtain⟨g,cap,rfl⟩:=slice_form ho2 (hnew.imp fun b h=>h.1);have HO:=Aside0.mk ho2;have HB:=Aside0.mk hb;clear ho ho2 hb hnew)
 go_loopg [14] m (fun gg s14 wr=> ∃ (c H0:Nat) (cs:List Value) (done:List (List S42)),c≤m∧m - c≤gg∧s14= .int .i64 c∧Aside0 (RowsAt k42 42 63 wr w.heap.size g cap m c H0 cs done [])∧Aside0 (Below w.heap.size w wr)∧Aside0 (seedRows k l0 (m - c) c done=some r))
 case atStart=>
  refine⟨0,w1.heap.size,List.replicate m (.slice none 0 0),[],Nat.zero_le _,by omega,rfl,⟨⟨?_,?_,Nat.le_refl _,HB.out.size,by simp,rfl,fun j x u hx=>by simp at hx,fun hc=>⟨_,by rw[List.getElem?_replicate,if_pos hc],Kd.N_nil _ _ _ _ _⟩,fun j _ hj=>by rw[List.getElem?_replicate,if_pos hj]⟩⟩,HB,H0⟩
  ·have:=HO.out
   simpa [encs]using this
  ·exact(HO.out.lt g (by simp[Value.ownBlock])).2
 case round=>
  clear H0 HB HO;obtain⟨c,H0,cs,done,hc,hgc,rfl,HA,HB,HP⟩:=hrel;by_cases hlt:c< m
  ·have hltz:(c:Int)< (m:Int):=by omega
   obtain⟨n,hn⟩: ∃n,m - c=n+1:=⟨m - c - 1,by omega⟩;have hP:=HP.out;rw[hn,seedRows]at hP;obtain⟨row,hrow,hP⟩:=Option.bind_eq_some_iff.1 hP;have HP:=Aside0.mk hP;have HRow:=Aside0.mk hrow;have Hn:=Aside0.mk hn;clear hP hrow hn;go_wp2_with fail
   go_loopg [19] l0.length (fun gg s19 wr=> ∃ (i:Nat) (cs:List Value) (part:List S42),i≤l0.length∧l0.length - i≤gg∧part.length≤i∧s19= .int .i64 i∧Aside0 (RowsAt k42 42 63 wr w.heap.size g cap m c H0 cs done part)∧Aside0 (Below w.heap.size w wr)∧Aside0 (seedRow k (c:Int) (l0.drop i) part=some row))
   case atStart=>exact⟨0,cs,[],Nat.zero_le _,by omega,by simp,rfl,HA,HB,HRow⟩
   case round=>
    clear HA HB HRow;obtain⟨i,cs,part,hi,hgi,hpl,rfl,HA,HB,HRow⟩:=hrel;by_cases hit:i< l0.length
    ·have hitz:(i:Int)< (l0.length:Int):=by omega
     obtain⟨ad,e2,hx2⟩:=Kd.at_int (Kd.C_below HR0.out HB.out) (i:Int) (by omega) (by omega);subst e2;simp only[rd,Int.toNat_natCast]at hx2;have hd:l0.drop i=l0.getD i 0::l0.drop (i+1):=by rw[List.drop_eq_getElem_cons hit];simp[hit]
     have hR:=HRow.out;obtain⟨d,hdd⟩: ∃d,d=l0.getD i 0:=⟨_,rfl⟩;rw[←hdd]at hx2 hd;rw[hd,seedRow]at hR;obtain⟨⟨t1,t2,t3,t4⟩,hw0,hR⟩:=Option.bind_eq_some_iff.1 hR;have HRow:=Aside0.mk hR;clear hR hd hdd;obtain⟨vc,hvc,hN⟩:=HA.out.now hlt;have HN:=Aside0.mk hN;obtain⟨Ac,cc,rfl,hlc,_⟩:=Kd.N_reads hN;have Hvc:=Aside0.mk hvc;have hcell:=(HA.out.cell hvc).1;clear hN;obtain⟨xv,hxv⟩: ∃xv:Int,xv=(if(c:Int)=d then 1 else 0):=⟨_,rfl⟩;rw[←hxv]at hw0;have HW:=Aside0.mk hw0;clear hw0;by_cases hcd:(c:Int)=d
     all_goals
      first|rw[if_pos hcd]at hxv|rw[if_neg hcd]at hxv
      subst hxv;first|have hcdb:((c:Int)==d)=true:=beq_iff_eq.2 hcd|have hcdb:((c:Int)==d)=false:=beq_eq_false_iff_ne.2 hcd
      clear hcd;go_wp2_with fail
      refine start_ (n:=12) (S:=fun w'=>w'.cell? ⟨g,c,none⟩=some (.slice Ac part.length cc)) (ds:= [11]) (M_ 12 0) (by kernel_rfl) rfl (by kernel_rfl) ((HA.out.cell hvc).1) (fun hHeld=>?_);refine pu_ 0 (some 26) (M_ 12 1) ?_;refine pu_ 1 (some 27) (M_ 12 3) ?_;refine pu_ 2 (some 28) (M_ 12 7) ?_;refine pu_ 3 (some 29) (M_ 12 15) ?_;refine pu_ 4 (some 30) (M_ 12 31) ?_;refine pu_ 6 (some 32) (M_ 12 95) ?_;refine ta_ 5 (some 31) (M_ 12 127) hHeld ?_;refine one_ (i:=7) (N:=some 33) (M_ 12 255) rfl rfl (by kernel_rfl) (by decide) (fun K hK=>?_);refine goes_ Tryd.func57 (by kernel_rfl) rfl #[.int .i64 _] (by rfl) rfl rfl (by simp only[List.map_toArray,List.map_cons,List.map_nil];rfl) ?_;(with_reducible refine(sparse_whole.calls k _ t1 t2 t3 t4 _ HW.out).mono ?_);rintro e w3 ⟨v2,v3,rfl,hv2,hv3,hb3⟩;refine⟨_,rfl,?_⟩;obtain⟨A2,c2,rfl⟩:=Kd.V_slice hv2;obtain⟨A3,c3,rfl⟩:=Kd.V_slice hv3;replace hb3:=(Below.refl wr.heap.size wr).drew.trans hb3;have HA3:=Aside0.mk (HA.out.below hb3);have HV2:=Aside0.mk hv2;have HV3:=Aside0.mk hv3;have HB3:=Aside0.mk hb3;clear hv2 hv3 hb3;refine hK.out _ _ ((HA3.out.cell hvc).1) (fun hHeld=>?_);clear hK K;refine no_ 33 ?_;refine one_ (i:=8) (N:=some 34) (M_ 12 511) rfl rfl (by kernel_rfl) (by decide) (fun K hK=>?_);refine value_ (w1:=?_) (v:=?_) (by rfl) rfl ?_ ?_;rotate_left 2
      ·go_simp;constructor
       ·rfl
       ·rfl
      refine hK.out _ _ (((HA3.out.below (below_alloc (Below.refl _ _) _)).cell hvc).1) (fun hHeld=>?_);clear hK K;refine no_ 34 ?_;refine one_ (i:=9) (N:=some 35) (M_ 12 1023) rfl rfl (by kernel_rfl) (by decide) (fun K hK=>?_);refine Kd.N_append_step k42 (w0:=w3) H0 (by rfl) (.tmp 31) (.tmp 34) 63 42 (.agg #[.int .i64 0,.bool false,.slice none 0 0,.slice none 0 0]) 64 rfl Tryd.underlying63 infoRat rfl (by decide) (by omega) (.slice Ac part.length cc) part ⟨t1,t2,t3,t4⟩ [.int .i64 t1,.bool t2,.slice A2 t3.length c2,.slice A3 t4.length c3] (fun k=>H0≤k) (fun k=>wr.heap.size≤k) rfl rfl ?hp ?hokp ?hfresh ?HO ?HB ?hbase ?hl ?_;(case hp=>exact k42_mkF _ _ ⟨t1,t2,t3,t4⟩ (Kd.V_at HV2.out).2.1 (Kd.V_at HV2.out).2.2 (Kd.V_at HV3.out).2.1 (Kd.V_at HV3.out).2.2);(case hokp=>exact fun k hk=>⟨Nat.le_trans HA.out.hw hk,fun e=>by have h1:=Kd.N_lt HN.out k e.symm;have hk:wr.heap.size≤k:=hk;omega⟩);(case hfresh=>exact fun k hk=>Nat.le_trans HA3.out.hw hk);(case HO=>exact Kd.N_below HN.out HB3.out);(case HB=>exact Below.refl _ _);(case hbase=>exact HA3.out.hw);(case hl=>omega);intro v1 w5 hN5 _ hg5 _;obtain⟨A5,c5,rfl,_⟩:=Kd.N_reads hN5;rw[List.length_append,List.length_singleton]at hN5;obtain⟨hc5,hf5⟩:=HA3.out.after hg5 (N_own_ge HN.out) hvc;have HN5:=Aside0.mk hN5;have HG5:=Aside0.mk hg5;clear hN5 hg5;refine hK.out _ _ (hc5) (fun hHeld=>?_);clear hK K;refine no_ 35 ?_;refine pu_ 10 (some 36) (M_ 12 2047) ?_;refine last_ (i:=11) (N:=none) (M_ 12 4095) rfl rfl (by kernel_rfl) (by decide) (fun K hK=>?_);refine skip_ (w1:=?_) (by rfl) rfl ?_ ?_;rotate_left
      ·go_simp;rfl
      refine hK.out _ _ ?_;clear hK K;refine done_ (by kernel_rfl) ?_;go_wp2_with fail
      go_roundg (l0.length - (i+1))
      case measure=>omega
      case rel=>
       exact⟨i+1,cs.set c _,part++ [⟨t1,t2,t3,t4⟩],by omega,by omega,by simp;omega,by go_num,⟨HA3.out.put hlt Hvc.out HG5.out (N_own_ge HN.out) HN5.out⟩,⟨((HB.out.trans (HB3.out.mono HB.out.size)).grown HG5.out (by have:=HB.out.size;have:=HB3.out.size;omega) (fun q hq=>by have:=N_own_ge HN.out q hq;have:=HA.out.hb;omega)).setCell HA.out.lt _⟩,HRow⟩
    ·have hitz: ¬ (i:Int)< (l0.length:Int):=by omega
     have:i=l0.length:=by omega
     subst this;have hR:=HRow.out;rw[List.drop_length,seedRow]at hR;have hpr:part=row:=Option.some.inj hR;subst hpr;clear hR;go_wp2_with fail
     go_roundg (m - (c+1))
     case measure=>omega
     case rel=>
      exact⟨c+1,wr.heap.size,cs,done++ [part],by omega,by omega,by go_num,⟨HA.out.next hlt⟩,HB,⟨by rw[show m - (c+1)=n by have:=Hn.out;omega];exact HP.out⟩⟩
  ·have hltz: ¬ (c:Int)< (m:Int):=by omega
   have:c=m:=by omega
   subst this;have hP:=HP.out;rw[Nat.sub_self,seedRows]at hP;have hdr:done=r:=Option.some.inj hP;subst hdr;go_wp2_with fail
   go_ret;exact⟨_,rfl,HA.out.done,HB.out⟩
end
def sparse_Seeds.f(k:Nat)(l0:List Int):Option ((List (List (S42)))×Int):=(sparse_seeded.f k l0).bind fun bt293=>(if bt293.2=0 then((sparse_seeds.f k l0 bt293.1).bind fun t295=>(some (t295,0)))else(some (([] :List (List (S42))),bt293.2)))
theorem sparse_Seeds.calls(k:Nat)(A0:Option Addr)(c0:Nat)(l0:List Int)(r1:List (List (S42)))(r2:Int)(w:World)(hr0:Kd.C (Kd.int .i64) w A0 l0.length l0)(hc0:l0.length≤c0)(h:sparse_Seeds.f k l0=some (r1,r2)):
  Calls Tryd.prog 20 #[.slice A0 l0.length c0] w fun e w'=> ∃v0_:Value,e= .returned (.tuple #[v0_,.int .i64 r2])∧Kd.N (Kd.slice 42 k42) 63 w' w.heap.size (fun k_=>(w.heap.size≤k_)) v0_ r1∧Below w.heap.size w w':=by
 have HR0:=Aside0.mk hr0;have HC0:=Aside0.mk hc0;clear hr0 hc0;have HB:=Aside0.mk (Below.refl w.heap.size w);have H:=h;clear h;unfold sparse_Seeds.f at H;obtain⟨⟨t293,t294⟩,A2,H⟩:=bO H;(try dsimp only at H);by_cases c3:t294=0
 ·rw[if_pos c3]at H;have c3b0:=beq_iff_eq.mpr c3;have c3b1:=bne_eq_false_iff_eq.mpr c3;clear c3;obtain⟨t295,A4,H⟩:=bO H;(try dsimp only at H);simp only[Option.some.injEq,Prod.mk.injEq]at H;obtain⟨rfl,rfl⟩:=H;go_enter Tryd.func20,Tryd.ntmps20
  go_wp2_with (first| (refine gF 38 ?_;refine gl_ (some 8) Tryd.func38 #[.slice A0 l0.length c0] ?_;(with_reducible refine(sparse_seeded.calls k _ _ l0 t293 t294 _ (cQ (HR0.out)) HC0.out A2.out).mono ?_);rintro e w5 ⟨rfl,hb⟩;refine⟨_,rfl,?_⟩;replace HB:=Aside0.mk (below_step bQ hb);(try clear hb);(try clear hk);(try clear hi)) | (refine gF 39 ?_;refine gl_ (some 16) Tryd.func39 #[.slice A0 l0.length c0,.int .i64 t293] ?_;(with_reducible refine(sparse_seeds.calls k _ _ l0 t293 t295 _ (cbQ HR0 HB) HC0.out A4.out).mono ?_);rintro e w6 ⟨v296,rfl,ho0,hb⟩;refine⟨_,rfl,?_⟩;have HO297:=Aside0.mk (Kd.N_lower (Kd.N_mono (ok':=fun k_=>(w.heap.size≤k_)) ho0 (fun k_ hk_=>(Nat.le_trans (below_size bQ) hk_))) (below_size bQ));replace HB:=hsQ hb;(try clear hb);(try clear hk);(try clear hi);(try clear ho0)))
  go_ret2;exact⟨_,eQ,nX (h:=HO297.out),bQ⟩
 ·rw[if_neg c3]at H;have c3b0:=beq_eq_false_iff_ne.mpr c3;have c3b1:=bne_iff_ne.mpr c3;simp only[Option.some.injEq,Prod.mk.injEq]at H;obtain⟨rfl,rfl⟩:=H;go_enter Tryd.func20,Tryd.ntmps20
  go_wp2_with (first| (refine gF 38 ?_;refine gl_ (some 8) Tryd.func38 #[.slice A0 l0.length c0] ?_;(with_reducible refine(sparse_seeded.calls k _ _ l0 t293 t294 _ (cQ (HR0.out)) HC0.out A2.out).mono ?_);rintro e w7 ⟨rfl,hb⟩;refine⟨_,rfl,?_⟩;replace HB:=Aside0.mk (below_step bQ hb);(try clear hb);(try clear hk);(try clear hi)))
  go_ret2;exact⟨(.slice none 0 0),eQ,by first|exact Kd.R_nil _ _ _ _ _|exact Kd.N_nil _ _ _ _ _|exact Kd.V_nil _ _ _ _ _|exact Kd.Q_nil _ _ _ _ _|exact Kd.S_nil _ _ _ _ _,bQ⟩
theorem sparse_painted.enters: ∀args w,(callFunc 58 args).run Tryd.prog w= .ok (.enter 58 args) w:=enters_of Tryd.func58 (by kernel_rfl) rfl
theorem sparse_painted.lit(W:World)(x:Int):FnAny 58 #[] (.int .i64 x) (decide (x< 0)) W:=by
 unfold FnAny;go_enter Tryd.func58,Tryd.ntmps58
 go_wp2_with fail
 go_ret;exact⟨rfl,Below.refl _ _⟩
def sparse_painted.f(a0:Int)(l1:List Int):Option Int:=if¬ (l1.length:Int)=a0 then some 2 else if l1.any (fun x=>decide (x< 0))=true then some 2 else some 0
theorem sparse_painted.calls(a0:Int)(A1:Option Addr)(c1:Nat)(l1:List Int)(r:Int)(w:World)(hr1:Kd.C (Kd.int .i64) w A1 l1.length l1)(hc1:l1.length≤c1)(h:sparse_painted.f a0 l1=some r):
  Calls Tryd.prog 40 #[.int .i64 a0,.slice A1 l1.length c1] w fun e w'=>e= .returned (.int .i64 r)∧Below w.heap.size w w':=by
 have HR:=Aside0.mk hr1;clear hr1 hc1;unfold sparse_painted.f at h;by_cases h1: ¬ (l1.length:Int)=a0
 ·rw[if_pos h1]at h;cases h;have hd:((l1.length:Int) !=a0)=true:=bne_iff_ne.2 h1;clear h1;go_enter Tryd.func40,Tryd.ntmps40
  go_wp2_with fail
  go_ret;exact⟨rfl,by repeat(first|exact Below.refl _ _|apply below_alloc|apply pw_below_drewN|apply below_drew1)⟩
 ·rw[if_neg h1]at h;have hd:((l1.length:Int) !=a0)=false:=bne_eq_false_iff_eq.2 (Decidable.of_not_not h1);clear h1;obtain⟨b,hb⟩: ∃b,l1.any (fun x=>decide (x< 0))=b:=⟨_,rfl⟩;rw[hb]at h;have HB:=Aside0.mk hb;clear hb;cases b;all_goals
   cases h;go_enter Tryd.func40,Tryd.ntmps40
   go_wp2_with fail
   refine(ContainsFunc_Int.calls A1 c1 l1 _ 58 _ _ sparse_painted.enters HR.out (fun W x v hW hK _=>by cases hK;exact sparse_painted.lit W x)).mono ?_;rintro e w' ⟨rfl,hb⟩;rw[HB.out];go_wp2_with fail
   go_ret;exact⟨rfl,hb⟩
def sparse_Fits.f(l0:List (List Bool))(a1:Int)(l2:List Int):Option (Bool×Int):=(sparse_form.f l0 a1).bind fun t298=>(if t298=0 then((sparse_painted.f a1 l2).bind fun t299=>(if t299=0 then((sparse_fits.f l0 l2).bind fun t300=>(some (t300,t299)))else(some (false,t299))))else(some (false,t298)))
theorem sparse_Fits.calls(A0:Option Addr)(c0:Nat)(l0:List (List Bool))(a1:Int)(A2:Option Addr)(c2:Nat)(l2:List Int)(r1:Bool)(r2:Int)(w:World)(hr0:Kd.C (Kd.slice 4 Kd.bool) w A0 l0.length l0)(hc0:l0.length≤c0)(hr2:Kd.C (Kd.int .i64) w A2 l2.length l2)(hc2:l2.length≤c2)(h:sparse_Fits.f l0 a1 l2=some (r1,r2)):
  Calls Tryd.prog 21 #[.slice A0 l0.length c0,.int .i64 a1,.slice A2 l2.length c2] w fun e w'=>e= .returned (.tuple #[.bool r1,.int .i64 r2])∧Below w.heap.size w w':=by
 have HR0:=Aside0.mk hr0;have HC0:=Aside0.mk hc0;clear hr0 hc0;have HR2:=Aside0.mk hr2;have HC2:=Aside0.mk hc2;clear hr2 hc2;have HB:=Aside0.mk (Below.refl w.heap.size w);have H:=h;clear h;unfold sparse_Fits.f at H;obtain⟨t298,A4,H⟩:=bO H;(try dsimp only at H);by_cases c5:t298=0
 ·rw[if_pos c5]at H;have c5b0:=beq_iff_eq.mpr c5;have c5b1:=bne_eq_false_iff_eq.mpr c5;clear c5;obtain⟨t299,A6,H⟩:=bO H;(try dsimp only at H);by_cases c7:t299=0
  ·rw[if_pos c7]at H;have c7b0:=beq_iff_eq.mpr c7;have c7b1:=bne_eq_false_iff_eq.mpr c7;clear c7;obtain⟨t300,A8,H⟩:=bO H;(try dsimp only at H);simp only[Option.some.injEq,Prod.mk.injEq]at H;obtain⟨rfl,rfl⟩:=H;go_enter Tryd.func21,Tryd.ntmps21
   go_wp2_with (first| (refine gF 36 ?_;refine gl_ (some 11) Tryd.func36 #[.slice A0 l0.length c0,.int .i64 a1] ?_;(with_reducible refine(sparse_form.calls _ _ l0 a1 t298 _ (cQ (HR0.out)) HC0.out A4.out).mono ?_);rintro e w9 ⟨rfl,hb⟩;refine⟨_,rfl,?_⟩;replace HB:=Aside0.mk (below_step bQ hb);(try clear hb);(try clear hk);(try clear hi)) | (refine gF 40 ?_;refine gl_ (some 16) Tryd.func40 #[.int .i64 a1,.slice A2 l2.length c2] ?_;(with_reducible refine(sparse_painted.calls a1 _ _ l2 t299 _ (cbQ HR2 HB) HC2.out A6.out).mono ?_);rintro e w10 ⟨rfl,hb⟩;refine⟨_,rfl,?_⟩;replace HB:=Aside0.mk (below_step bQ hb);(try clear hb);(try clear hk);(try clear hi)) | (go_at_call 41;(with_reducible refine(sparse_fits.calls _ _ l0 _ _ l2 t300 _ (cbQ HR0 HB) HC0.out (cbQ HR2 HB) HC2.out A8.out).mono ?_);rintro e w11 ⟨rfl,hb⟩;replace HB:=Aside0.mk (below_step bQ hb);(try clear hb);(try clear hk);(try clear hi)))
   go_ret2;exact⟨eQ,bQ⟩
  ·rw[if_neg c7]at H;have c7b0:=beq_eq_false_iff_ne.mpr c7;have c7b1:=bne_iff_ne.mpr c7;simp only[Option.some.injEq,Prod.mk.injEq]at H;obtain⟨rfl,rfl⟩:=H;go_enter Tryd.func21,Tryd.ntmps21
   go_wp2_with (first| (refine gF 36 ?_;refine gl_ (some 11) Tryd.func36 #[.slice A0 l0.length c0,.int .i64 a1] ?_;(with_reducible refine(sparse_form.calls _ _ l0 a1 t298 _ (cQ (HR0.out)) HC0.out A4.out).mono ?_);rintro e w12 ⟨rfl,hb⟩;refine⟨_,rfl,?_⟩;replace HB:=Aside0.mk (below_step bQ hb);(try clear hb);(try clear hk);(try clear hi)) | (refine gF 40 ?_;refine gl_ (some 16) Tryd.func40 #[.int .i64 a1,.slice A2 l2.length c2] ?_;(with_reducible refine(sparse_painted.calls a1 _ _ l2 t299 _ (cbQ HR2 HB) HC2.out A6.out).mono ?_);rintro e w13 ⟨rfl,hb⟩;refine⟨_,rfl,?_⟩;replace HB:=Aside0.mk (below_step bQ hb);(try clear hb);(try clear hk);(try clear hi)))
   go_ret2;exact⟨eQ,bQ⟩
 ·rw[if_neg c5]at H;have c5b0:=beq_eq_false_iff_ne.mpr c5;have c5b1:=bne_iff_ne.mpr c5;simp only[Option.some.injEq,Prod.mk.injEq]at H;obtain⟨rfl,rfl⟩:=H;go_enter Tryd.func21,Tryd.ntmps21
  go_wp2_with (first| (refine gF 36 ?_;refine gl_ (some 11) Tryd.func36 #[.slice A0 l0.length c0,.int .i64 a1] ?_;(with_reducible refine(sparse_form.calls _ _ l0 a1 t298 _ (cQ (HR0.out)) HC0.out A4.out).mono ?_);rintro e w14 ⟨rfl,hb⟩;refine⟨_,rfl,?_⟩;replace HB:=Aside0.mk (below_step bQ hb);(try clear hb);(try clear hk);(try clear hi)))
  go_ret2;exact⟨eQ,bQ⟩
def fluxionref02_Fault.f(a0:Int):Option (Int×Bool×List Int×List Int):=some (a0,false,([] :List Int),([] :List Int))
theorem fluxionref02_Fault.calls(a0:Int)(r1:Int)(r2:Bool)(r3:List Int)(r4:List Int)(w:World)(h:fluxionref02_Fault.f a0=some (r1,r2,r3,r4)):
  Calls Tryd.prog 59 #[.int .i64 a0] w fun e w'=> ∃v2_ v3_:Value,e= .returned (.agg #[.int .i64 r1,.bool r2,v2_,v3_])∧Kd.R (Kd.int .u32) 97 w' w.heap.size (fun k_=>some k_≠(v3_:Value).ownBlock) v2_ r3∧Kd.R (Kd.int .u32) 97 w' w.heap.size (fun k_=>some k_≠(v2_:Value).ownBlock) v3_ r4∧Below w.heap.size w w':=by
 have hu42:=Tryd.underlying42;have HB:=Aside0.mk (Below.refl w.heap.size w);have H:=h;clear h;unfold fluxionref02_Fault.f at H;simp only[Option.some.injEq,Prod.mk.injEq]at H;obtain⟨rfl,rfl,rfl,rfl⟩:=H;go_enter Tryd.func59,Tryd.ntmps59
 go_wp2_with (first| (refine gD 2 ?_;refine bx_ 2 #[.int .i64 0,.bool false,.slice none 0 0,.slice none 0 0] 42 ?_;intro gb301 hg w2 hbox hb;have BK301:=Aside0.mk hbox;have GW301:=Aside0.mk (gQ w hg);have GE301:=Aside0.mk (gQ w hg);replace HB:=hsQ hb;clear hb hbox hg;obtain⟨_,_,_,_,_,_,_,_⟩:=c4Q BK301.out))
 refine bodyPost_ret (results_cell_row rfl _ _ gb301 42 #[.int .i64 a0,.bool false,.slice none 0 0,.slice none 0 0] (0,0) _ rfl (bU 3 (h:=bU 2 (h:=bU 1 (h:=bU 0 (h:=bV (h:=BK301.out)))))) Tryd.underlying42 rfl (by kernel_rfl)) rfl ?_;exact⟨(.slice none 0 0),(.slice none 0 0),eQ,by first|exact Kd.R_nil _ _ _ _ _|exact Kd.N_nil _ _ _ _ _|exact Kd.V_nil _ _ _ _ _|exact Kd.Q_nil _ _ _ _ _|exact Kd.S_nil _ _ _ _ _,by first|exact Kd.R_nil _ _ _ _ _|exact Kd.N_nil _ _ _ _ _|exact Kd.V_nil _ _ _ _ _|exact Kd.Q_nil _ _ _ _ _|exact Kd.S_nil _ _ _ _ _,bQ⟩
def fluxionref01_Bits.l0:Nat→Int→Int→Option (Int)
 |0,_,_=>none
 |k+1,x3,x4=>if x4 >0 then(fluxionref01_Bits.l0 k (wrap64 (x3+1)) ((Int.tdiv x4 2) % 4294967296))else(some x3)
def fluxionref01_Bits.f(k:Nat)(l0:List Int):Option (Int):=if(l0.length:Int)=0 then(some 0)else(if 0≤(wrap64 ((l0.length:Int) - 1))then(if(wrap64 ((l0.length:Int) - 1))< (l0.length:Int)then(fluxionref01_Bits.l0 k (wrap64 (32 * (wrap64 ((l0.length:Int) - 1)))) (rd l0 (wrap64 ((l0.length:Int) - 1))))else(none))else(none))
theorem fluxionref01_Bits.calls(k:Nat)(A0:Option Addr)(c0:Nat)(l0:List Int)(r:Int)(w:World)(hr0:Kd.C (Kd.int .u32) w A0 l0.length l0)(hc0:l0.length≤c0)(h:fluxionref01_Bits.f k l0=some r):
  Calls Tryd.prog 83 #[.slice A0 l0.length c0] w fun e w'=>e= .returned (.int .i64 r)∧Drawn0 w w':=by
 have HR0:=Aside0.mk hr0;have HC0:=Aside0.mk hc0;clear hr0 hc0;have H:=h;clear h;unfold fluxionref01_Bits.f at H;by_cases c2:(l0.length:Int)=0
 ·rw[if_pos c2]at H;have c2b0:=beq_iff_eq.mpr c2;have c2b1:=bne_eq_false_iff_eq.mpr c2;clear c2;obtain rfl:=Option.some.inj H;go_enter Tryd.func83,Tryd.ntmps83
  go_wp2
  go_ret;exact⟨by first|rfl| (simp;done) | (simp[*];done),by repeat(first|exact Drawn0.refl _|apply Drawn0.step)⟩
 ·rw[if_neg c2]at H;have c2b0:=beq_eq_false_iff_ne.mpr c2;have c2b1:=bne_iff_ne.mpr c2;have c2b2: ¬ (l0= []):=fun h_=>c2 (by rw[h_];rfl)
  obtain⟨ji3,hji3⟩: ∃j_:Int,(wrap64 ((l0.length:Int) - 1))=j_:=⟨_,rfl⟩;(first|rw[hji3]at H|simp only[hji3]at H);have hji3w:(IntKind.i64.wrap ((l0.length:Int) - 1))=ji3:=(i64_w _).trans hji3;replace H:=iN H;obtain⟨c4,H⟩:=H;have c4b0:=decide_eq_true c4;clear c4;replace H:=iN H;obtain⟨c5,H⟩:=H;have c5b0:=decide_eq_true c5;clear c5;have H':=Aside0.mk H;clear H;have p302:0≤((ji3):Int):=dQ;have q302:(ji3)< (l0.length:Int):=dQ;obtain⟨ad302,e302,hx302_0⟩:=Kd.at_int HR0.out (ji3) p302 q302;cases e302;replace p302:=eq_true p302;replace q302:=eq_true q302;go_enter Tryd.func83,Tryd.ntmps83
  go_wp2
  go_loopg [3,4] k (fun kq v3 v4 w'=> ∃ (x3_1:Int) (x4_1:Int),v3= .int .i64 x3_1∧v4= .int .u32 x4_1∧Aside0 (fluxionref01_Bits.l0 kq x3_1 x4_1=some r)∧Aside0 (kq≤k)∧Drawn0 w w')
  case atStart=>exact⟨(wrap64 (32 * (ji3))),(rd l0 (ji3)),(by first|rfl| (simp;done) | (simp only[←hji3] <;>(first|rfl|simp)) | (simp[*];done)),(by first|rfl| (simp;done) | (simp only[←hji3] <;>(first|rfl|simp)) | (simp[*];done)),H',⟨Nat.le_refl _⟩,by repeat(first|exact Drawn0.refl _|apply Drawn0.step)⟩
  case round=>
   clear H';(try clear c2);(try clear c2b0);(try clear c2b1);(try clear c2b2);(try clear p2);(try clear p3);(try clear q3);(try clear hx3);(try clear c4);(try clear c4b0);(try clear c5);(try clear c5b0);(try clear hx302_0);(try clear p302);(try clear q302);obtain⟨x3_1,x4_1,rfl,rfl,HA,HK1,⟨m1,rfl⟩⟩:=hrel;cases gk with
   |zero=>exact absurd HA.out (by simp[fluxionref01_Bits.l0])
   |succ k1=>
    have H:=HA.out;clear HA;simp only[fluxionref01_Bits.l0]at H;by_cases c6:x4_1 >0
    ·rw[if_pos c6]at H;have c6b0:=decide_eq_true c6;clear c6;have H':=Aside0.mk H;clear H;go_wp2
     go_roundg k1
     case measure=>have:=HK1.out;omega
     case rel=>exact⟨(wrap64 (x3_1+1)),((Int.tdiv x4_1 2) % 4294967296),eS,eS,H',⟨by have:=HK1.out;omega⟩,by repeat(first|exact Drawn0.refl _|apply Drawn0.step)⟩
    ·rw[if_neg c6]at H;have c6b0:=decide_eq_false c6;clear c6;obtain rfl:=Option.some.inj H;go_wp2
     go_ret;exact⟨by first|rfl| (simp;done) | (simp only[←hji3] <;>(first|rfl|simp)) | (simp[*];done),by repeat(first|exact Drawn0.refl _|apply Drawn0.step)⟩
def fluxionref02_Long.f(k:Nat)(l0:List Int):Option (Bool):=(fluxionref01_Bits.f k l0).bind fun t303=>(some (decide (t303 >4096)))
theorem fluxionref02_Long.calls(k:Nat)(A0:Option Addr)(c0:Nat)(l0:List Int)(r:Bool)(w:World)(hr0:Kd.C (Kd.int .u32) w A0 l0.length l0)(hc0:l0.length≤c0)(h:fluxionref02_Long.f k l0=some r):
  Calls Tryd.prog 74 #[.slice A0 l0.length c0] w fun e w'=>e= .returned (.bool r)∧Drawn0 w w':=by
 have HR0:=Aside0.mk hr0;have HC0:=Aside0.mk hc0;clear hr0 hc0;have H:=h;clear h;unfold fluxionref02_Long.f at H;obtain⟨t303,A2,H⟩:=bO H;(try dsimp only at H);obtain rfl:=Option.some.inj H;go_enter Tryd.func74,Tryd.ntmps74
 go_wp2_with (first| (refine gF 83 ?_;refine gl_ (some 4) Tryd.func83 #[.slice A0 l0.length c0] ?_;(with_reducible refine(fluxionref01_Bits.calls k _ _ l0 t303 _ (cQ (HR0.out)) HC0.out A2.out).mono ?_);rintro e w' ⟨rfl,⟨nd,rfl⟩⟩;refine⟨_,rfl,?_⟩))
 go_ret;exact⟨by first|rfl| (simp;done) | (simp[*];done),by repeat(first|exact Drawn0.refl _|apply Drawn0.step)⟩
def fluxionref02_Bound.f(k:Nat)(a0_0:Int)(a0_1:Bool)(l0_2:List Int)(l0_3:List Int):Option (Int×Bool×List Int×List Int):=(fluxionref02_Long.f k l0_2).bind fun t306=>(if t306=true then(none)else((fluxionref02_Long.f k l0_3).bind fun t307=>(if t307=true then(none)else(some (a0_0,a0_1,l0_2,l0_3)))))
theorem fluxionref02_Bound.calls(k:Nat)(a0_0:Int)(a0_1:Bool)(P0_2_:Nat→Prop)(u9000_:Value)(l0_2:List Int)(P0_3_:Nat→Prop)(u9001_:Value)(l0_3:List Int)(r1:Int)(r2:Bool)(r3:List Int)(r4:List Int)(w0 w:World)(hB:Below w0.heap.size w0 w)(ho0_2:Kd.R (Kd.int .u32) 97 w w0.heap.size P0_2_ u9000_ l0_2)(hp0_2_0_3: ∀k_,P0_2_ k_→ ¬P0_3_ k_)(ho0_3:Kd.R (Kd.int .u32) 97 w w0.heap.size P0_3_ u9001_ l0_3)(hp0_3_0_2: ∀k_,P0_3_ k_→ ¬P0_2_ k_)(h:fluxionref02_Bound.f k a0_0 a0_1 l0_2 l0_3=some (r1,r2,r3,r4)):
  Calls Tryd.prog 60 #[.agg #[.int .i64 a0_0,.bool a0_1,u9000_,u9001_]] w fun e w'=> ∃v2_ v3_:Value,e= .returned (.agg #[.int .i64 r1,.bool r2,v2_,v3_])∧Kd.R (Kd.int .u32) 97 w' w0.heap.size (fun k_=>((P0_2_ k_∨P0_3_ k_)∨w.heap.size≤k_)∧some k_≠(v3_:Value).ownBlock) v2_ r3∧Kd.R (Kd.int .u32) 97 w' w0.heap.size (fun k_=>((P0_2_ k_∨P0_3_ k_)∨w.heap.size≤k_)∧some k_≠(v2_:Value).ownBlock) v3_ r4∧Below w0.heap.size w0 w'∧Kept w w' (fun k_=>P0_2_ k_∨P0_3_ k_):=by
 have hu42:=Tryd.underlying42;have HO0_2:=Aside0.mk (show Kd.R (Kd.int .u32) 97 w w0.heap.size (fun k_=>((P0_2_ k_∨P0_3_ k_)∨w.heap.size≤k_)∧some k_≠(u9001_:Value).ownBlock) u9000_ l0_2 from Kd.R_mono ho0_2 (fun k_ hk=>⟨(.inl (.inl hk)),fun e_=>hp0_2_0_3 k_ hk (ho0_3.1 k_ e_.symm)⟩));have HO0_3:=Aside0.mk (show Kd.R (Kd.int .u32) 97 w w0.heap.size (fun k_=>((P0_2_ k_∨P0_3_ k_)∨w.heap.size≤k_)∧some k_≠(u9000_:Value).ownBlock) u9001_ l0_3 from Kd.R_mono ho0_3 (fun k_ hk=>⟨(.inl (.inr hk)),fun e_=>hp0_3_0_2 k_ hk (ho0_2.1 k_ e_.symm)⟩));have HK:=Aside0.mk (Kept.refl w (fun k_=>P0_2_ k_∨P0_3_ k_));have HW0:=Aside0.mk hB.size;have HB:=Aside0.mk hB;clear hB;have H:=h;clear h;unfold fluxionref02_Bound.f at H;obtain⟨t306,A2,H⟩:=bO H;(try dsimp only at H);by_cases c3:t306=true
 ·subst c3;rw[if_pos rfl]at H;exact absurd H (by simp)
 ·replace c3:=Bool.eq_false_iff.mpr c3;subst c3;rw[if_neg nF]at H;obtain⟨t307,A4,H⟩:=bO H;(try dsimp only at H);by_cases c5:t307=true
  ·subst c5;rw[if_pos rfl]at H;exact absurd H (by simp)
  ·replace c5:=Bool.eq_false_iff.mpr c5;subst c5;rw[if_neg nF]at H;simp only[Option.some.injEq,Prod.mk.injEq]at H;obtain⟨rfl,rfl,rfl,rfl⟩:=H;obtain⟨Ao6,co6,eo6⟩:=Kd.R_slice HO0_2.out;subst eo6;obtain⟨Ao7,co7,eo7⟩:=Kd.R_slice HO0_3.out;subst eo7;go_enter Tryd.func60,Tryd.ntmps60
   go_wp2_with (first| (refine gD 1 ?_;refine bx_ 1 #[.int .i64 a0_0,.bool a0_1,.slice Ao6 l0_2.length co6,.slice Ao7 l0_3.length co7] 42 ?_;intro gb304 hg w8 hbox hb;have BK304:=Aside0.mk hbox;have GW304:=Aside0.mk (by rw[hg];exact(by first|exact HK.out.1|exact(show Kept w _ (fun k_=>P0_2_ k_∨P0_3_ k_)from by repeat(first| (with_reducible first|exact HK.out|apply Kept.alloc|apply Kept.drewN|apply Kept.drew) |exact HK.out)).1):w.heap.size≤gb304);have GE304:=Aside0.mk (gQ w0 hg);replace HO0_2:=rB HO0_2 hb;replace HO0_3:=rB HO0_3 hb;replace HK:=Aside0.mk (Kept.below (S:=(fun k_=>P0_2_ k_∨P0_3_ k_)) (by repeat(first| (with_reducible first|exact HK.out|apply Kept.alloc|apply Kept.drewN|apply Kept.drew) |exact HK.out)) hb);replace HB:=hsQ hb;clear hb hbox hg) | (refine gD 2 ?_;refine bx_ 2 #[.int .i64 0,.bool false,.slice none 0 0,.slice none 0 0] 42 ?_;intro gb305 hg w9 hbox hb;have BK305:=Aside0.mk hbox;have GW305:=Aside0.mk (by rw[hg];exact(by first|exact HK.out.1|exact(show Kept w _ (fun k_=>P0_2_ k_∨P0_3_ k_)from by repeat(first| (with_reducible first|exact HK.out|apply Kept.alloc|apply Kept.drewN|apply Kept.drew|refine Kept.setCell ?_ (.inr GW304.out) _) |exact HK.out)).1):w.heap.size≤gb305);have GE305:=Aside0.mk (gQ w0 hg);have NB304_305:=Aside0.mk (lQ hg (kQ BK304.out));have NB305_304:=Aside0.mk (mQ' hg (kQ BK304.out));replace HO0_2:=rB HO0_2 hb;replace HO0_3:=rB HO0_3 hb;replace BK304:=kB BK304 hb;replace HK:=Aside0.mk (Kept.below (S:=(fun k_=>P0_2_ k_∨P0_3_ k_)) (by repeat(first| (with_reducible first|exact HK.out|apply Kept.alloc|apply Kept.drewN|apply Kept.drew|refine Kept.setCell ?_ (.inr GW304.out) _) |exact HK.out)) hb);replace HB:=hsQ hb;clear hb hbox hg;have hnb10:=NB304_305.out;have hnc10:=NB305_304.out;obtain⟨hcz11_0,hcz11_1,hcz11_2,hcz11_3,hfz11_0,hfz11_1,hfz11_2,hfz11_3⟩:=c4Q BK304.out) | (refine gF 74 ?_;refine gl_ (some 5) Tryd.func74 #[.slice Ao6 l0_2.length co6] ?_;(with_reducible refine(fluxionref02_Long.calls k _ _ l0_2 false _ (cQ ((Kd.R_reads' HO0_2.out).2.2)) ((Kd.R_reads' HO0_2.out).2.1) A2.out).mono ?_);rintro e w' ⟨rfl,⟨nd,rfl⟩⟩;refine⟨_,rfl,?_⟩;(try (rw[drewN_self w9];generalize hq_:World.drewN w9 _=w9;have n0_:Aside0 (Kd.R (Kd.int .u32) 97 w9 w0.heap.size (fun k_=>((P0_2_ k_∨P0_3_ k_)∨w.heap.size≤k_)∧some k_≠(.slice Ao7 l0_3.length co7:Value).ownBlock) (.slice Ao6 l0_2.length co6) l0_2):=⟨by rw[←hq_];exact(pRQ HO0_2.out)⟩;have n1_:Aside0 (Kd.R (Kd.int .u32) 97 w9 w0.heap.size (fun k_=>((P0_2_ k_∨P0_3_ k_)∨w.heap.size≤k_)∧some k_≠(.slice Ao6 l0_2.length co6:Value).ownBlock) (.slice Ao7 l0_3.length co7) l0_3):=⟨by rw[←hq_];exact(pRQ HO0_3.out)⟩;have n2_:Aside0 (w9.heap[gb304]? =some (.cells #[.int .i64 a0_0,.bool a0_1,.slice Ao6 l0_2.length co6,.slice Ao7 l0_3.length co7] 42 (0,0))):=⟨by rw[←hq_];exact(kQ BK304.out)⟩;have n3_:Aside0 (w9.heap[gb305]? =some (.cells #[.int .i64 0,.bool false,.slice none 0 0,.slice none 0 0] 42 (0,0))):=⟨by rw[←hq_];exact(kQ BK305.out)⟩;have n4_:Aside0 (Kept w w9 (fun k_=>P0_2_ k_∨P0_3_ k_)):=⟨by rw[←hq_];exact(by repeat(first| (with_reducible first|exact HK.out|apply Kept.alloc|apply Kept.drewN|apply Kept.drew|refine Kept.setCell ?_ (.inr GW304.out) _|refine Kept.setCell ?_ (.inr GW305.out) _) |exact HK.out))⟩;have n5_:=dB w0 hq_;clear HO0_2 HO0_3 BK304 BK305 HK HB hq_;have HO0_2:=n0_;have HO0_3:=n1_;have BK304:=n2_;have BK305:=n3_;have HK:=n4_;have HB:=n5_;clear n0_ n1_ n2_ n3_ n4_ n5_;(try (have hcz11_3:w9.cell? ⟨gb304,3,none⟩=some (.slice Ao7 l0_3.length co7):=bC BK304.out 3));(try (have hfz11_3:=blk_frozen BK304.out 3));(try (have hcz11_2:w9.cell? ⟨gb304,2,none⟩=some (.slice Ao6 l0_2.length co6):=bC BK304.out 2));(try (have hfz11_2:=blk_frozen BK304.out 2));(try (have hcz11_1:w9.cell? ⟨gb304,1,none⟩=some (.bool a0_1):=bC BK304.out 1));(try (have hfz11_1:=blk_frozen BK304.out 1));(try (have hcz11_0:w9.cell? ⟨gb304,0,none⟩=some (.int .i64 a0_0):=bC BK304.out 0));(try (have hfz11_0:=blk_frozen BK304.out 0))))) | (go_at_call 74;(with_reducible refine(fluxionref02_Long.calls k _ _ l0_3 false _ (cQ ((Kd.R_reads' HO0_3.out).2.2)) ((Kd.R_reads' HO0_3.out).2.1) A4.out).mono ?_);rintro e w' ⟨rfl,⟨nd,rfl⟩⟩;(try (rw[drewN_self w9];generalize hq_:World.drewN w9 _=w9;have n0_:Aside0 (Kd.R (Kd.int .u32) 97 w9 w0.heap.size (fun k_=>((P0_2_ k_∨P0_3_ k_)∨w.heap.size≤k_)∧some k_≠(.slice Ao7 l0_3.length co7:Value).ownBlock) (.slice Ao6 l0_2.length co6) l0_2):=⟨by rw[←hq_];exact(pRQ HO0_2.out)⟩;have n1_:Aside0 (Kd.R (Kd.int .u32) 97 w9 w0.heap.size (fun k_=>((P0_2_ k_∨P0_3_ k_)∨w.heap.size≤k_)∧some k_≠(.slice Ao6 l0_2.length co6:Value).ownBlock) (.slice Ao7 l0_3.length co7) l0_3):=⟨by rw[←hq_];exact(pRQ HO0_3.out)⟩;have n2_:Aside0 (w9.heap[gb304]? =some (.cells #[.int .i64 a0_0,.bool a0_1,.slice Ao6 l0_2.length co6,.slice Ao7 l0_3.length co7] 42 (0,0))):=⟨by rw[←hq_];exact(kQ BK304.out)⟩;have n3_:Aside0 (w9.heap[gb305]? =some (.cells #[.int .i64 0,.bool false,.slice none 0 0,.slice none 0 0] 42 (0,0))):=⟨by rw[←hq_];exact(kQ BK305.out)⟩;have n4_:Aside0 (Kept w w9 (fun k_=>P0_2_ k_∨P0_3_ k_)):=⟨by rw[←hq_];exact(by repeat(first| (with_reducible first|exact HK.out|apply Kept.alloc|apply Kept.drewN|apply Kept.drew|refine Kept.setCell ?_ (.inr GW304.out) _|refine Kept.setCell ?_ (.inr GW305.out) _) |exact HK.out))⟩;have n5_:=dB w0 hq_;clear HO0_2 HO0_3 BK304 BK305 HK HB hq_;have HO0_2:=n0_;have HO0_3:=n1_;have BK304:=n2_;have BK305:=n3_;have HK:=n4_;have HB:=n5_;clear n0_ n1_ n2_ n3_ n4_ n5_;(try (have hcz11_3:w9.cell? ⟨gb304,3,none⟩=some (.slice Ao7 l0_3.length co7):=bC BK304.out 3));(try (have hfz11_3:=blk_frozen BK304.out 3));(try (have hcz11_2:w9.cell? ⟨gb304,2,none⟩=some (.slice Ao6 l0_2.length co6):=bC BK304.out 2));(try (have hfz11_2:=blk_frozen BK304.out 2));(try (have hcz11_1:w9.cell? ⟨gb304,1,none⟩=some (.bool a0_1):=bC BK304.out 1));(try (have hfz11_1:=blk_frozen BK304.out 1));(try (have hcz11_0:w9.cell? ⟨gb304,0,none⟩=some (.int .i64 a0_0):=bC BK304.out 0));(try (have hfz11_0:=blk_frozen BK304.out 0))));obtain⟨_,_,_,_,_,_,_,_⟩:=c4Q BK305.out))
   refine bodyPost_ret (results_cell_row rfl _ _ gb305 42 #[.int .i64 a0_0,.bool a0_1,.slice Ao6 l0_2.length co6,.slice Ao7 l0_3.length co7] (0,0) _ rfl (bU 3 (h:=bU 2 (h:=bU 1 (h:=bU 0 (h:=bV (h:=BK305.out)))))) Tryd.underlying42 rfl (by kernel_rfl)) rfl ?_;exact⟨_,_,eQ,rX (h:=Kd.R_mono (rFo (Kd.R_types HO0_2.out BK305.out (by decide)) (fun _ hk=>hk.2)) (fun _ hk=>⟨hk.1.1,hk.1.2⟩)),rX (h:=Kd.R_mono (rFo (Kd.R_types HO0_3.out BK305.out (by decide)) (fun _ hk=>hk.2)) (fun _ hk=>⟨hk.1.1,hk.1.2⟩)),bQ,by repeat(first| (with_reducible first|exact HK.out|apply Kept.alloc|apply Kept.drewN|apply Kept.drew|refine Kept.setCell ?_ (.inr GW304.out) _|refine Kept.setCell ?_ (.inr GW305.out) _) |exact HK.out)⟩
end Go.Proofs.YtjjbondlcjnaiaaDoor.PSparseJoined
