-- written by a program of this session, after the kit's print
import Derived.Test.YtjjbondlcjnaiaaGreatPSparseOwnx9
namespace Go.Proofs.YtjjbondlcjnaiaaGreat.PSparseOwn
open Go.RowKit Go.Proofs.YtjjbondlcjnaiaaGreatW.PrintWords Go.Proofs.YtjjbondlcjnaiaaGreatW.PrintLast Go.Proofs.YtjjbondlcjnaiaaGreatW.PrintMore
set_option maxHeartbeats 8000000
set_option maxRecDepth 100000
attribute [local go_sem] max2_int min2_int max_two min_two max_three min_three max_four min_four
set_option linter.unusedVariables false
set_option linter.unusedSimpArgs false
section
open Go.Maps
theorem infoRat:(Tryz.prog.info? 59).map (fun i=>(i.zero,i.size,i.bytes))=some (some (.agg #[.int .i64 0,.bool false,.slice none 0 0,.slice none 0 0]),4,64):=by kernel_rfl
theorem infoRats:(Tryz.prog.info? 35).map (fun i=>(i.zero,i.size,i.bytes))=some (some (.slice none 0 0),1,24):=by kernel_rfl
structure RowsAt {α:Type} (d:Kd α) (e1 e2:Nat) (w:World) (base g cap m c H0:Nat) (cs:List Value) (done:List (List α)) (part:List α):Prop where
 row:w.ownsRow base e2 1 (.slice (some ⟨g,0,none⟩) m cap) m (encs (fun v:Value=>v) cs)
 hg:g< H0
 hw:H0≤w.heap.size
 hb:base≤H0
 len:cs.length=m
 dlen:done.length=c
 old: ∀ (j:Nat) (x:List α) (u:Value),done[j]? =some x→cs[j]? =some u→Kd.FK (Kd.slice e1 d) w (fun k=>(base≤k∧k< H0)∧k≠g) x [u]
 now:c< m→ ∃vc,cs[c]? =some vc∧Kd.N d e1 w H0 (fun k=>H0≤k) vc part
 nils: ∀j,c< j→j< m→cs[j]? =some (.slice none 0 0)
theorem RowsAt.below{α:Type}{d:Kd α}{e1 e2:Nat}{w w1:World}{base g cap m c H0:Nat}{cs:List Value}{done:List (List α)}{part:List α}(h:RowsAt d e1 e2 w base g cap m c H0 cs done part)(hb:Below w.heap.size w w1):RowsAt d e1 e2 w1 base g cap m c H0 cs done part:=by
 refine⟨own_move h.row (fun k hk=>?_),h.hg,Nat.le_trans h.hw hb.size,h.hb,h.len,h.dlen,fun j x u hx hu=>Kd.FK_below (h.old j x u hx hu) hb,fun hc=>?_,h.nils⟩
 ·exact hb.block k (h.row.lt k hk).2
 ·obtain⟨vc,hv,hN⟩:=h.now hc;exact⟨vc,hv,Kd.N_below hN hb⟩
theorem RowsAt.cell{α:Type}{d:Kd α}{e1 e2:Nat}{w:World}{base g cap m c H0:Nat}{cs:List Value}{done:List (List α)}{part:List α}(h:RowsAt d e1 e2 w base g cap m c H0 cs done part){j:Nat}{u:Value}(hj:cs[j]? =some u):w.cell? ⟨g,j,none⟩=some u∧w.frozen? ⟨g,j,none⟩=false:=by
 have hlt:=(List.getElem?_eq_some_iff.1 hj).1;have h1:=own_at_of (d:=Value.bool false) h.row (j:Int) (by omega) (by have:=h.len;omega);rw[Int.toNat_natCast]at h1;have e:rdOf (Value.bool false) cs (j:Int)=u:=by simp[rdOf,List.getD_eq_getElem?_getD,hj]
 rw[e]at h1;exact h1
theorem RowsAt.put{α:Type}{d:Kd α}{e1 e2:Nat}{w w1:World}{base g cap m c H0:Nat}{cs:List Value}{done:List (List α)}{part part':List α}(h:RowsAt d e1 e2 w base g cap m c H0 cs done part)(hc:c< m){vc v1:Value}(hvc:cs[c]? =some vc)
  (hg:w.grownBy w1 vc.ownBlock) (hvo: ∀k,vc.ownBlock=some k→H0≤k) (hN:Kd.N d e1 w1 H0 (fun k=>H0≤k) v1 part'):
  RowsAt d e1 e2 (w1.setCell ⟨g,c,none⟩ v1) base g cap m c H0 (cs.set c v1) done part':=by
 have hgh:=h.hg;have h1:w1.ownsRow base e2 1 (.slice (some ⟨g,0,none⟩) m cap) m (encs (fun v:Value=>v) cs):=own_move h.row (fun k hk=>by
  have e:g=k:=by simpa [Value.ownBlock]using hk
  subst e;exact hg.block g (h.row.lt g hk).2 (fun e=>by have:=hvo g e.symm;omega))
 obtain⟨h2,h3⟩:=own_store_of h1 (c:Int) v1;rw[Int.toNat_natCast]at h2 h3;refine⟨h2,h.hg,Nat.le_trans (Nat.le_trans h.hw hg.size) h3.size,h.hb,by rw[List.length_set];exact h.len,h.dlen,fun j x u hx hu=>?_,fun _=>⟨v1,by rw[List.getElem?_set_self (by rw[h.len];exact hc)],?_⟩,fun j hj hm=>by rw[List.getElem?_set_ne (by omega)];exact h.nils j hj hm⟩
 ·have hj:j< c:=by have:=(List.getElem?_eq_some_iff.1 hx).1;rw[h.dlen]at this;exact this
  rw[List.getElem?_set_ne (by omega)]at hu;refine Kd.FK_step (Kd.FK_step (h.old j x u hx hu) (fun k hk hlt=>hg.block k hlt (fun e=>?_))) (fun k hk hlt=>Below.heap_setCell _ _ _ k hk.2)
  have:=hvo k e.symm
  omega
 ·exact Kd.N_step hN (fun k hk hlt=>Below.heap_setCell _ _ _ k (fun e=>by have hk:H0≤k:=hk;have e:k=g:=e;omega))
theorem RowsAt.next{α:Type}{d:Kd α}{e1 e2:Nat}{w:World}{base g cap m c H0:Nat}{cs:List Value}{done:List (List α)}{part:List α}(h:RowsAt d e1 e2 w base g cap m c H0 cs done part)(hc:c< m):
  RowsAt d e1 e2 w base g cap m (c+1) w.heap.size cs (done++ [part]) [] :=by
 have hgh:=h.hg;have hwh:=h.hw;have hbh:=h.hb;obtain⟨vc,hvc,hN⟩:=h.now hc;refine⟨h.row,Nat.lt_of_lt_of_le h.hg h.hw,Nat.le_refl _,Nat.le_trans h.hb h.hw,h.len,by rw[List.length_append,h.dlen];rfl,fun j x u hx hu=>?_,fun hc1=>⟨_,h.nils (c+1) (by omega) hc1,Kd.N_nil _ _ _ _ _⟩,fun j hj hm=>h.nils j (by omega) hm⟩;have hj:j< c+1:=by have:=(List.getElem?_eq_some_iff.1 hx).1;rw[List.length_append,h.dlen]at this;exact this
 by_cases e:j=c
 ·subst e;rw[List.getElem?_append_right (by rw[h.dlen];exact Nat.le_refl _),h.dlen,Nat.sub_self]at hx;have hx':part=x:=by simpa using hx
  subst hx';rw[hvc]at hu;cases hu;obtain⟨A,cp,rfl,hl,hF⟩:=Kd.N_V (base':=0) hN;refine Kd.FK_mono (Kd.FK_bound (W:=w) (ok:=fun k=>H0≤k) (fun W' hW=>⟨A,cp,rfl,hl,hF W' hW⟩)) (fun k hk=>⟨⟨by omega,hk.2⟩,by omega⟩)
 ·rw[List.getElem?_append_left (by rw[h.dlen];omega)]at hx;exact Kd.FK_mono (h.old j x u hx hu) (fun k hk=>⟨⟨hk.1.1,by omega⟩,hk.2⟩)
theorem RowsAt.done{α:Type}{d:Kd α}{e1 e2:Nat}{w:World}{base g cap m H0:Nat}{cs:List Value}{done:List (List α)}{part:List α}(h:RowsAt d e1 e2 w base g cap m m H0 cs done part):
  Kd.N (Kd.slice e1 d) e2 w base (fun k=>base≤k) (.slice (some ⟨g,0,none⟩) m cap) done:=by
 have hlt:=h.row.lt g (by simp[Value.ownBlock]);have hl:=h.len;have hdl:=h.dlen;refine⟨fun k hk=>?_,cs.map (fun u=> [u]),by rw[List.length_map,hl,hdl],⟨fun k hk=>hk.symm,encs (fun v=>v) cs,?_,?_⟩,fun j x c hx hc=>?_⟩
 ·have e:g=k:=by simpa [Value.ownBlock]using hk
  subst e;exact hlt.1
 ·rw[List.length_map,hl];exact h.row
 ·refine⟨by simp[encs,Kd.raw,Kd.slice],fun j p hp=>?_⟩;rw[List.getElem?_map]at hp;obtain⟨u,hu,rfl⟩:=Option.map_eq_some_iff.1 hp;have hju:=(List.getElem?_eq_some_iff.1 hu);obtain⟨hjl,hju⟩:=hju;have he:((encs (fun v:Value=>v) cs).drop (j * (Kd.raw (Kd.slice e1 d).sz).sz)).take (Kd.raw (Kd.slice e1 d).sz).sz= [u] :=by
   have e0:encs (fun v:Value=>v) cs=cs:=by simp[encs]
   rw[e0,show(Kd.raw (Kd.slice e1 d).sz).sz=1 from rfl,Nat.mul_one,List.drop_eq_getElem_cons hjl,List.take_succ_cons,List.take_zero,hju]
  rw[he];obtain⟨x,hx⟩: ∃x,done[j]? =some x:=⟨_,List.getElem?_eq_getElem (by rw[hdl,←hl];exact hjl)⟩;have hk:=Kd.FK_now (h.old j x u hx hu);exact⟨rfl,rfl,Kd.K_one _ hk⟩
 ·rw[List.getElem?_map]at hc;obtain⟨u,hu,rfl⟩:=Option.map_eq_some_iff.1 hc;refine Kd.FK_mono (h.old j x u hx hu) (fun k hk=>⟨hk.1.1,fun e=>hk.2 ?_⟩)
  simpa [Value.ownBlock]using e
theorem RowsAt.lt{α:Type}{d:Kd α}{e1 e2:Nat}{w:World}{base g cap m c H0:Nat}{cs:List Value}{done:List (List α)}{part:List α}(h:RowsAt d e1 e2 w base g cap m c H0 cs done part):base≤g:=(h.row.lt g (by simp[Value.ownBlock])).1
theorem RowsAt.after{α:Type}{d:Kd α}{e1 e2:Nat}{w w1:World}{base g cap m c H0:Nat}{cs:List Value}{done:List (List α)}{part:List α}(h:RowsAt d e1 e2 w base g cap m c H0 cs done part){row:Option Nat}(hg:w.grownBy w1 row)(hvo: ∀k,row=some k→H0≤k){j:Nat}{u:Value}(hj:cs[j]? =some u):w1.cell? ⟨g,j,none⟩=some u∧w1.frozen? ⟨g,j,none⟩=false:=by
 have hgh:=h.hg;have hlt:=(List.getElem?_eq_some_iff.1 hj).1;have h1:w1.ownsRow base e2 1 (.slice (some ⟨g,0,none⟩) m cap) m (encs (fun v:Value=>v) cs):=own_move h.row (fun k hk=>by
  have e:g=k:=by simpa [Value.ownBlock]using hk
  subst e;exact hg.block g (h.row.lt g hk).2 (fun e=>by have:=hvo g e.symm;omega))
 have h2:=own_at_of (d:=Value.bool false) h1 (j:Int) (by omega) (by have:=h.len;omega);rw[Int.toNat_natCast]at h2;have e:rdOf (Value.bool false) cs (j:Int)=u:=by simp[rdOf,List.getD_eq_getElem?_getD,hj]
 rw[e]at h2;exact h2
theorem N_own_ge{α:Type}{d:Kd α}{e:Nat}{w:World}{H0:Nat}{v:Value}{xs:List α}(h:Kd.N d e w H0 (fun k=>H0≤k) v xs): ∀k,v.ownBlock=some k→H0≤k:=h.1
def seedRow(k:Nat)(c:Int):List Int→List S59→Option (List S59)
 | [],acc=>some acc
 |d::l,acc=>(sparse_whole.f k (if c=d then 1 else 0)).bind fun t=>seedRow k c l (acc++ [⟨t.1,t.2.1,t.2.2.1,t.2.2.2⟩])
def seedRows(k:Nat)(l0:List Int):Nat→Nat→List (List S59)→Option (List (List S59))
 |0,_,acc=>some acc
 |n+1,c,acc=>(seedRow k (c:Int) l0 []).bind fun row=>seedRows k l0 n (c+1) (acc++ [row])
def sparse_seeds.f(k:Nat)(l0:List Int)(a1:Int):Option (List (List S59)):=if(decide (0≤a1) && decide (a1≤1000000) && decide (l0.length≤1000000))=true then seedRows k l0 a1.toNat 0 []else none
theorem sparse_seeds.calls(k:Nat)(A0:Option Addr)(c0:Nat)(l0:List Int)(a1:Int)(r:List (List S59))(w:World)(hr0:Kd.C (Kd.int .i64) w A0 l0.length l0)(hc0:l0.length≤c0)(h:sparse_seeds.f k l0 a1=some r):
  Calls Tryz.prog 51 #[.slice A0 l0.length c0,.int .i64 a1] w fun e w'=> ∃v0_:Value,e= .returned (v0_)∧Kd.N (Kd.slice 59 k59) 35 w' w.heap.size (fun k_=>(w.heap.size≤k_)) v0_ r∧Below w.heap.size w w':=by
 have HR0:=Aside0.mk hr0;have hn0:l0.length≤9223372036854775807:=hr0.2.1;clear hr0 hc0;unfold sparse_seeds.f at h;split at h
 case isFalse=>cases h
 case isTrue hok=>
 simp only[Bool.and_eq_true,decide_eq_true_eq]at hok;obtain⟨⟨ha0,ha1⟩,hl0⟩:=hok;obtain⟨m,rfl⟩:=Int.eq_ofNat_of_zero_le ha0;rw[Int.toNat_natCast]at h;have H0:=Aside0.mk h;clear h;have hm1:m≤1000000:=by omega
 go_enter Tryz.func51,Tryz.ntmps51
 go_wp2_with (refine gD 11 ?_;refine Kd.R_make (Kd.scalar (fun v:Value=>Value.slice none 0 0) (fun _=>rfl)) _ 35 rfl (N:=11) rfl 24 _ _ rfl (m:Int) rfl rfl Tryz.underlying24 (.slice none 0 0) 24 infoRats rfl (by decide) (by omega) (.slice none 0 0) (ok:=fun _=>True) (okp:=fun _=>True) rfl (fun _ hk=>hk) trivial (by omega) (by omega) (Below.refl _ _) (Nat.le_refl _) ?_;intro v1 w1 ho hb _ hnew;have ho2:=Kd.own_of_R ho;rw[List.length_replicate,Int.toNat_natCast]at ho2;obtain⟨g,cap,rfl⟩:=slice_form ho2 (hnew.imp fun b h=>h.1);have HO:=Aside0.mk ho2;have HB:=Aside0.mk hb;clear ho ho2 hb hnew)
 go_loopg [14] m (fun gg s14 wr=> ∃ (c H0:Nat) (cs:List Value) (done:List (List S59)),c≤m∧m - c≤gg∧s14= .int .i64 c∧Aside0 (RowsAt k59 59 35 wr w.heap.size g cap m c H0 cs done [])∧Aside0 (Below w.heap.size w wr)∧Aside0 (seedRows k l0 (m - c) c done=some r))
 case atStart=>
  refine⟨0,w1.heap.size,List.replicate m (.slice none 0 0),[],Nat.zero_le _,by omega,rfl,⟨⟨?_,?_,Nat.le_refl _,HB.out.size,by simp,rfl,fun j x u hx=>by simp at hx,fun hc=>⟨_,by rw[List.getElem?_replicate,if_pos hc],Kd.N_nil _ _ _ _ _⟩,fun j _ hj=>by rw[List.getElem?_replicate,if_pos hj]⟩⟩,HB,H0⟩
  ·have:=HO.out
   simpa [encs]using this
  ·exact(HO.out.lt g (by simp[Value.ownBlock])).2
 case round=>
  clear H0 HB HO;obtain⟨c,H0,cs,done,hc,hgc,rfl,HA,HB,HP⟩:=hrel;by_cases hlt:c< m
  ·have hltz:(c:Int)< (m:Int):=by omega
   obtain⟨n,hn⟩: ∃n,m - c=n+1:=⟨m - c - 1,by omega⟩;have hP:=HP.out;rw[hn,seedRows]at hP;obtain⟨row,hrow,hP⟩:=Option.bind_eq_some_iff.1 hP;have HP:=Aside0.mk hP;have HRow:=Aside0.mk hrow;have Hn:=Aside0.mk hn;clear hP hrow hn;go_wp2_with fail
   go_loopg [19] l0.length (fun gg s19 wr=> ∃ (i:Nat) (cs:List Value) (part:List S59),i≤l0.length∧l0.length - i≤gg∧part.length≤i∧s19= .int .i64 i∧Aside0 (RowsAt k59 59 35 wr w.heap.size g cap m c H0 cs done part)∧Aside0 (Below w.heap.size w wr)∧Aside0 (seedRow k (c:Int) (l0.drop i) part=some row))
   case atStart=>exact⟨0,cs,[],Nat.zero_le _,by omega,by simp,rfl,HA,HB,HRow⟩
   case round=>
    clear HA HB HRow;obtain⟨i,cs,part,hi,hgi,hpl,rfl,HA,HB,HRow⟩:=hrel;by_cases hit:i< l0.length
    ·have hitz:(i:Int)< (l0.length:Int):=by omega
     obtain⟨ad,e2,hx2⟩:=Kd.at_int (Kd.C_below HR0.out HB.out) (i:Int) (by omega) (by omega);subst e2;simp only[rd,Int.toNat_natCast]at hx2;have hd:l0.drop i=l0.getD i 0::l0.drop (i+1):=by rw[List.drop_eq_getElem_cons hit];simp[hit]
     have hR:=HRow.out;obtain⟨d,hdd⟩: ∃d,d=l0.getD i 0:=⟨_,rfl⟩;rw[←hdd]at hx2 hd;rw[hd,seedRow]at hR;obtain⟨⟨t1,t2,t3,t4⟩,hw0,hR⟩:=Option.bind_eq_some_iff.1 hR;have HRow:=Aside0.mk hR;clear hR hd hdd;obtain⟨vc,hvc,hN⟩:=HA.out.now hlt;have HN:=Aside0.mk hN;obtain⟨Ac,cc,rfl,hlc,_⟩:=Kd.N_reads hN;have Hvc:=Aside0.mk hvc;have hcell:=(HA.out.cell hvc).1;clear hN;obtain⟨xv,hxv⟩: ∃xv:Int,xv=(if(c:Int)=d then 1 else 0):=⟨_,rfl⟩;rw[←hxv]at hw0;have HW:=Aside0.mk hw0;clear hw0;by_cases hcd:(c:Int)=d
     all_goals
      first|rw[if_pos hcd]at hxv|rw[if_neg hcd]at hxv
      subst hxv;first|have hcdb:((c:Int)==d)=true:=beq_iff_eq.2 hcd|have hcdb:((c:Int)==d)=false:=beq_eq_false_iff_ne.2 hcd
      clear hcd;go_wp2_with fail
      refine start_ (n:=12) (S:=fun w'=>w'.cell? ⟨g,c,none⟩=some (.slice Ac part.length cc)) (ds:= [11]) (M_ 12 0) (by kernel_rfl) rfl (by kernel_rfl) ((HA.out.cell hvc).1) (fun hHeld=>?_);refine pu_ 0 (some 26) (M_ 12 1) ?_;refine pu_ 1 (some 27) (M_ 12 3) ?_;refine pu_ 2 (some 28) (M_ 12 7) ?_;refine pu_ 3 (some 29) (M_ 12 15) ?_;refine pu_ 4 (some 30) (M_ 12 31) ?_;refine pu_ 6 (some 32) (M_ 12 95) ?_;refine ta_ 5 (some 31) (M_ 12 127) hHeld ?_;refine one_ (i:=7) (N:=some 33) (M_ 12 255) rfl rfl (by kernel_rfl) (by decide) (fun K hK=>?_);refine goes_ Tryz.func43 (by kernel_rfl) rfl #[.int .i64 _] (by rfl) rfl rfl (by simp only[List.map_toArray,List.map_cons,List.map_nil];rfl) ?_;(with_reducible refine(sparse_whole.calls k _ t1 t2 t3 t4 _ HW.out).mono ?_);rintro e w3 ⟨v2,v3,rfl,hv2,hv3,hb3⟩;refine⟨_,rfl,?_⟩;obtain⟨A2,c2,rfl⟩:=Kd.V_slice hv2;obtain⟨A3,c3,rfl⟩:=Kd.V_slice hv3;replace hb3:=(Below.refl wr.heap.size wr).drew.trans hb3;have HA3:=Aside0.mk (HA.out.below hb3);have HV2:=Aside0.mk hv2;have HV3:=Aside0.mk hv3;have HB3:=Aside0.mk hb3;clear hv2 hv3 hb3;refine hK.out _ _ ((HA3.out.cell hvc).1) (fun hHeld=>?_);clear hK K;refine no_ 33 ?_;refine one_ (i:=8) (N:=some 34) (M_ 12 511) rfl rfl (by kernel_rfl) (by decide) (fun K hK=>?_);refine value_ (w1:=?_) (v:=?_) (by rfl) rfl ?_ ?_;rotate_left 2
      ·go_simp;constructor
       ·rfl
       ·rfl
      refine hK.out _ _ (((HA3.out.below (below_alloc (Below.refl _ _) _)).cell hvc).1) (fun hHeld=>?_);clear hK K;refine no_ 34 ?_;refine one_ (i:=9) (N:=some 35) (M_ 12 1023) rfl rfl (by kernel_rfl) (by decide) (fun K hK=>?_);refine Kd.N_append_step k59 (w0:=w3) H0 (by rfl) (.tmp 31) (.tmp 34) 35 59 (.agg #[.int .i64 0,.bool false,.slice none 0 0,.slice none 0 0]) 64 rfl Tryz.underlying35 infoRat rfl (by decide) (by omega) (.slice Ac part.length cc) part ⟨t1,t2,t3,t4⟩ [.int .i64 t1,.bool t2,.slice A2 t3.length c2,.slice A3 t4.length c3] (fun k=>H0≤k) (fun k=>wr.heap.size≤k) rfl rfl ?hp ?hokp ?hfresh ?HO ?HB ?hbase ?hl ?_;(case hp=>exact k59_mkF _ _ ⟨t1,t2,t3,t4⟩ (Kd.V_at HV2.out).2.1 (Kd.V_at HV2.out).2.2 (Kd.V_at HV3.out).2.1 (Kd.V_at HV3.out).2.2);(case hokp=>exact fun k hk=>⟨Nat.le_trans HA.out.hw hk,fun e=>by have h1:=Kd.N_lt HN.out k e.symm;have hk:wr.heap.size≤k:=hk;omega⟩);(case hfresh=>exact fun k hk=>Nat.le_trans HA3.out.hw hk);(case HO=>exact Kd.N_below HN.out HB3.out);(case HB=>exact Below.refl _ _);(case hbase=>exact HA3.out.hw);(case hl=>omega);intro v1 w5 hN5 _ hg5 _;obtain⟨A5,c5,rfl,_⟩:=Kd.N_reads hN5;rw[List.length_append,List.length_singleton]at hN5;obtain⟨hc5,hf5⟩:=HA3.out.after hg5 (N_own_ge HN.out) hvc;have HN5:=Aside0.mk hN5;have HG5:=Aside0.mk hg5;clear hN5 hg5;refine hK.out _ _ (hc5) (fun hHeld=>?_);clear hK K;refine no_ 35 ?_;refine pu_ 10 (some 36) (M_ 12 2047) ?_;refine last_ (i:=11) (N:=none) (M_ 12 4095) rfl rfl (by kernel_rfl) (by decide) (fun K hK=>?_);refine skip_ (w1:=?_) (by rfl) rfl ?_ ?_;rotate_left
      ·go_simp;rfl
      refine hK.out _ _ ?_;clear hK K;refine done_ (by kernel_rfl) ?_;go_wp2_with fail
      go_roundg (l0.length - (i+1))
      case measure=>omega
      case rel=>
       exact⟨i+1,cs.set c _,part++ [⟨t1,t2,t3,t4⟩],by omega,by omega,by simp;omega,by go_num,⟨HA3.out.put hlt Hvc.out HG5.out (N_own_ge HN.out) HN5.out⟩,⟨((HB.out.trans (HB3.out.mono HB.out.size)).grown HG5.out (by have:=HB.out.size;have:=HB3.out.size;omega) (fun q hq=>by have:=N_own_ge HN.out q hq;have:=HA.out.hb;omega)).setCell HA.out.lt _⟩,HRow⟩
    ·have hitz: ¬ (i:Int)< (l0.length:Int):=by omega
     have:i=l0.length:=by omega
     subst this;have hR:=HRow.out;rw[List.drop_length,seedRow]at hR;have hpr:part=row:=Option.some.inj hR;subst hpr;clear hR;go_wp2_with fail
     go_roundg (m - (c+1))
     case measure=>omega
     case rel=>
      exact⟨c+1,wr.heap.size,cs,done++ [part],by omega,by omega,by go_num,⟨HA.out.next hlt⟩,HB,⟨by rw[show m - (c+1)=n by have:=Hn.out;omega];exact HP.out⟩⟩
  ·have hltz: ¬ (c:Int)< (m:Int):=by omega
   have:c=m:=by omega
   subst this;have hP:=HP.out;rw[Nat.sub_self,seedRows]at hP;have hdr:done=r:=Option.some.inj hP;subst hdr;go_wp2_with fail
   go_ret;exact⟨_,rfl,HA.out.done,HB.out⟩
end
end Go.Proofs.YtjjbondlcjnaiaaGreat.PSparseOwn
