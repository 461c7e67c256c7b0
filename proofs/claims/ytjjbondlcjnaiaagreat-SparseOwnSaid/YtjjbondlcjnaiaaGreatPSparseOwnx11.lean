-- written by a program of this session, after the kit's print
import Derived.Test.YtjjbondlcjnaiaaGreatPSparseOwnx10
namespace Go.Proofs.YtjjbondlcjnaiaaGreat.PSparseOwn
open Go.RowKit Go.Proofs.YtjjbondlcjnaiaaGreatW.PrintWords Go.Proofs.YtjjbondlcjnaiaaGreatW.PrintLast Go.Proofs.YtjjbondlcjnaiaaGreatW.PrintMore
set_option maxHeartbeats 8000000
set_option maxRecDepth 100000
attribute [local go_sem] max2_int min2_int max_two min_two max_three min_three max_four min_four
set_option linter.unusedVariables false
set_option linter.unusedSimpArgs false
section
open Go.Maps
structure RowsB {α:Type} (d:Kd α) (e1 e2:Nat) (w:World) (base g cap m c H0 b H1:Nat) (cs:List Value) (done:List (List α)) (part:List α):Prop where
 row:w.ownsRow base e2 1 (.slice (some ⟨g,0,none⟩) m cap) m (encs (fun v:Value=>v) cs)
 hg:g< H0
 hb0:H0≤b
 hb1:b< H1
 hw:H1≤w.heap.size
 hb:base≤H0
 len:cs.length=m
 dlen:done.length=c
 old: ∀ (j:Nat) (x:List α) (u:Value),done[j]? =some x→cs[j]? =some u→Kd.FK (Kd.slice e1 d) w (fun k=>(base≤k∧k< H0)∧k≠g) x [u]
 now:c< m→ ∃vc,cs[c]? =some vc∧Kd.N d e1 w H1 (fun k=>H1≤k) vc part
 nils: ∀j,c< j→j< m→cs[j]? =some (.slice none 0 0)
section
variable {α:Type} {d:Kd α} {e1 e2:Nat} {w w1:World} {base g cap m c H0 b H1:Nat} {cs:List Value} {done:List (List α)} {part part':List α}
theorem RowsAt.toB(h:RowsAt d e1 e2 w base g cap m c H0 cs done [])(hn:cs[c]? =some (.slice none 0 0))(hb:Below w.heap.size w w1)(b:Nat)(h0:H0≤b)(h1:b< w1.heap.size):RowsB d e1 e2 w1 base g cap m c H0 b w1.heap.size cs done [] :=
 have h':=h.below hb
 ⟨h'.row,h.hg,h0,h1,Nat.le_refl _,h.hb,h.len,h.dlen,h'.old,fun _=>⟨_,hn,Kd.N_nil _ _ _ _ _⟩,h.nils⟩
theorem RowsB.step(h:RowsB d e1 e2 w base g cap m c H0 b H1 cs done part)(hs:w.heap.size≤w1.heap.size)(hk: ∀k,k< w.heap.size→k≠b→w1.heap[k]? =w.heap[k]?):RowsB d e1 e2 w1 base g cap m c H0 b H1 cs done part:=by
 have h1:=h.hg;have h2:=h.hb0;have h3:=h.hb1;refine⟨own_move h.row (fun k hk'=>hk k (h.row.lt k hk').2 (by have e:g=k:=(by simpa [Value.ownBlock]using hk');omega)),h1,h2,h3,Nat.le_trans h.hw hs,h.hb,h.len,h.dlen,fun j x u hx hu=>Kd.FK_step (h.old j x u hx hu) (fun k hk' hlt=>hk k hlt (by omega)),fun hc=>?_,h.nils⟩;obtain⟨vc,hv,hN⟩:=h.now hc;exact⟨vc,hv,Kd.N_step hN (fun k hk' hlt=>hk k hlt (by have hk':H1≤k:=hk';omega))⟩
theorem RowsB.below(h:RowsB d e1 e2 w base g cap m c H0 b H1 cs done part)(hb:Below w.heap.size w w1):RowsB d e1 e2 w1 base g cap m c H0 b H1 cs done part:=h.step hb.size (fun k hk _=>hb.block k hk)
theorem RowsB.cell(h:RowsB d e1 e2 w base g cap m c H0 b H1 cs done part){j:Nat}{u:Value}(hj:cs[j]? =some u):w.cell? ⟨g,j,none⟩=some u∧w.frozen? ⟨g,j,none⟩=false:=by
 have hlt:=(List.getElem?_eq_some_iff.1 hj).1;have h1:=own_at_of (d:=Value.bool false) h.row (j:Int) (by omega) (by have:=h.len;omega);rw[Int.toNat_natCast]at h1;have e:rdOf (Value.bool false) cs (j:Int)=u:=by simp[rdOf,List.getD_eq_getElem?_getD,hj]
 rw[e]at h1;exact h1
theorem RowsB.put(h:RowsB d e1 e2 w base g cap m c H0 b H1 cs done part)(hc:c< m){vc v1:Value}(hvc:cs[c]? =some vc)(hg:w.grownBy w1 vc.ownBlock)(hvo: ∀k,vc.ownBlock=some k→H1≤k)(hN:Kd.N d e1 w1 H1 (fun k=>H1≤k) v1 part'):
  RowsB d e1 e2 (w1.setCell ⟨g,c,none⟩ v1) base g cap m c H0 b H1 (cs.set c v1) done part':=by
 have hgh:=h.hg;have h01:=h.hb0;have h02:=h.hb1;have h1:w1.ownsRow base e2 1 (.slice (some ⟨g,0,none⟩) m cap) m (encs (fun v:Value=>v) cs):=own_move h.row (fun k hk=>by
  have e:g=k:=by simpa [Value.ownBlock]using hk
  subst e;exact hg.block g (h.row.lt g hk).2 (fun e=>by have:=hvo g e.symm;omega))
 obtain⟨h2,h3⟩:=own_store_of h1 (c:Int) v1;rw[Int.toNat_natCast]at h2 h3;refine⟨h2,h.hg,h01,h02,Nat.le_trans (Nat.le_trans h.hw hg.size) h3.size,h.hb,by rw[List.length_set];exact h.len,h.dlen,fun j x u hx hu=>?_,fun _=>⟨v1,by rw[List.getElem?_set_self (by rw[h.len];exact hc)],?_⟩,fun j hj hm=>by rw[List.getElem?_set_ne (by omega)];exact h.nils j hj hm⟩
 ·have hj:j< c:=by have:=(List.getElem?_eq_some_iff.1 hx).1;rw[h.dlen]at this;exact this
  rw[List.getElem?_set_ne (by omega)]at hu;refine Kd.FK_step (Kd.FK_step (h.old j x u hx hu) (fun k hk hlt=>hg.block k hlt (fun e=>?_))) (fun k hk hlt=>Below.heap_setCell _ _ _ k hk.2)
  have:=hvo k e.symm
  omega
 ·exact Kd.N_step hN (fun k hk hlt=>Below.heap_setCell _ _ _ k (fun e=>by have hk:H1≤k:=hk;have e:k=g:=e;omega))
theorem RowsB.toA(h:RowsB d e1 e2 w base g cap m c H0 b H1 cs done part):RowsAt d e1 e2 w base g cap m c H0 cs done part:=by
 have h1:=h.hb0;have h2:=h.hb1;refine⟨h.row,h.hg,Nat.le_trans (by omega) h.hw,h.hb,h.len,h.dlen,h.old,fun hc=>?_,h.nils⟩;obtain⟨vc,hv,hN⟩:=h.now hc;exact⟨vc,hv,Kd.N_mono (Kd.N_lower hN (by omega)) (fun k hk=>by have hk:H1≤k:=hk;show H0≤k;omega)⟩
end
def dRat:S59:=⟨0,false,[],[]⟩
def badS(k:Nat)(x:S59):Bool:=decide (ratOf k x=some false) ||decide (x.f0≠0)
def badR(k:Nat)(row:List S59):Bool:=row.any (badS k)
def leftN(fr:List S59)(n:Nat)(x:Int):Bool:=decide (0≤x) && decide (x< (n:Int)) && decide (0< (fr.getD x.toNat dRat).f2.length)
def leftK(fr:List S59)(row:List Bool)(c:List Int)(j:Nat)(x:Int):Bool:=leftN fr fr.length x && !seenAt row c j x
def leftB(fr:List S59)(row:List Bool)(c:List Int):Bool:=(List.range fr.length).any fun x=>leftK fr row c row.length (x:Int)
def cloned(x:S59):Bool:=decide (x.f2.length< 35184372088832) && decide (x.f3.length< 35184372088832)
def spreadRow(k:Nat)(c:List Int)(fr:List S59):List Bool→Nat→List S59→Option (List S59)
 | [],_,acc=>some acc
 |b::bs,j,acc=>(sparse_whole.f k 0).bind fun t=>if b=true then(if 0≤c.getD j 0∧c.getD j 0< (fr.length:Int)∧cloned (fr.getD (c.getD j 0).toNat dRat)=true then spreadRow k c fr bs (j+1) (acc++ [fr.getD (c.getD j 0).toNat dRat])else none)else spreadRow k c fr bs (j+1) (acc++ [⟨t.1,t.2.1,t.2.2.1,t.2.2.2⟩])
def spreadRows(k:Nat)(c:List Int):List (List Bool)→List (List S59)→List (List S59)→Option (List (List S59)×Int)
 | [],_,acc=>some (acc,0)
 |_::_,[],_=>none
 |row::ps,fr::fs,acc=>if fr.length≤4096∧row.length=c.length then(spreadRow k c fr row 0 []).bind fun r=>if leftB fr row c=true then some ([],10)else spreadRows k c ps fs (acc++ [r])else none
def sparse_Spread.f(k:Nat)(l0:List (List Bool))(l1:List Int)(l2:List (List S59)):Option (List (List S59)×Int):=
 (sparse_form.f l0 (l1.length:Int)).bind fun e1=>(if e1=0 then sparse_painted.f (l1.length:Int) l1 else some e1).bind fun e=>if¬e=0 then some ([],e)else(sparse_fits.f l0 l1).bind fun ft=>if ft=false then some ([],9)else
  (sparse_seeded.f k l1).bind fun s=>if¬s.2=0 then some ([],2)else if¬ (l2.length:Int)=(l0.length:Int)then some ([],2)else if l2.any (fun row=>decide (¬ (row.length:Int)=s.1))=true then some ([],2)else
   if l2.all (fun row=>row.all (fun x=>(ratOf k x).isSome))=true∧wfInts l1=true then(if l2.any (badR k)=true then some ([],5)else spreadRows k l1 l0 l2 [])else none
theorem leftN_zero(fr:List S59)(x:Int):leftN fr 0 x=false:=by
 unfold leftN;by_cases h:0≤x
 ·rw[decide_eq_false (show¬x< ((0:Nat):Int)by omega)];simp
 ·rw[decide_eq_false h];rfl
theorem leftN_succ(fr:List S59)(n:Nat)(x:Int):(if x=(n:Int)then decide (0< (fr.getD n dRat).f2.length)else leftN fr n x)=leftN fr (n+1) x:=by
 unfold leftN;by_cases e:x=(n:Int)
 ·subst e;rw[if_pos rfl,decide_eq_true (show(0:Int)≤(n:Int)by omega),decide_eq_true (show(n:Int)< ((n+1:Nat):Int)by omega),Int.toNat_natCast];rfl
 ·rw[if_neg e];have h:decide (x< (n:Int))=decide (x< ((n+1:Nat):Int)):=decide_eq_decide.2 ⟨fun h=>by omega,fun h=>by omega⟩;rw[h]
theorem leftK_zero(fr:List S59)(row:List Bool)(c:List Int)(x:Int):leftN fr fr.length x=leftK fr row c 0 x:=by
 unfold leftK seenAt;simp
theorem leftK_false{fr:List S59}{row:List Bool}{c:List Int}{j:Nat}(h:row.getD j false=false)(x:Int):leftK fr row c j x=leftK fr row c (j+1) x:=by
 unfold leftK;rw[seenAt_succ,h];simp
theorem leftK_true{fr:List S59}{row:List Bool}{c:List Int}{j:Nat}(h:row.getD j false=true)(x:Int):(if x=c.getD j 0 then false else leftK fr row c j x)=leftK fr row c (j+1) x:=by
 unfold leftK;rw[seenAt_succ,h];by_cases e:x=c.getD j 0
 ·subst e;simp
 ·rw[if_neg e]
  have:(c.getD j 0==x)=false:=beq_eq_false_iff_ne.2 (Ne.symm e)
  rw[this];simp
theorem leftB_none{fr:List S59}{row:List Bool}{c:List Int}(h: ∀x,leftK fr row c row.length x=false):leftB fr row c=false:=by
 unfold leftB;exact List.any_eq_false.2 (fun x _=>by rw[h];decide)
theorem leftB_some{fr:List S59}{row:List Bool}{c:List Int}{x:Int}(h:leftK fr row c row.length x=true):leftB fr row c=true:=by
 have h0:=h;unfold leftK leftN at h;simp only[Bool.and_eq_true,decide_eq_true_eq]at h;refine List.any_eq_true.2 ⟨x.toNat,List.mem_range.2 (by omega),?_⟩;rw[show((x.toNat:Nat):Int)=x by omega];exact h0
theorem sparse_Spread.enters1: ∀args w,(callFunc 39 args).run Tryz.prog w= .ok (.enter 39 args) w:=enters_of Tryz.func39 (by kernel_rfl) rfl
theorem sparse_Spread.enters2: ∀args w,(callFunc 41 args).run Tryz.prog w= .ok (.enter 41 args) w:=enters_of Tryz.func41 (by kernel_rfl) rfl
theorem sparse_Spread.lit1(n1:Int)(B:Addr)(W:World)(hB:W.cell? B=some (.int .i64 n1))(A:Option Addr)(c:Nat)(x:List S59):FnAny 39 #[.pointer (some B)] (.slice A x.length c) (decide (¬ (x.length:Int)=n1)) W:=by
 unfold FnAny;go_enter Tryz.func39,Tryz.ntmps39
 go_wp2_with fail
 go_ret;exact⟨by rw[decide_not];rfl,Below.refl _ _⟩
theorem sparse_Spread.lit2(k:Nat)(x:S59)(b:Bool)(hx:ratOf k x=some b)(W:World)(A2:Option Addr)(c2:Nat)(A3:Option Addr)(c3:Nat)(l2:x.f2.length≤c2)(g2:(Kd.int .u32).C W A2 x.f2.length x.f2)(l3:x.f3.length≤c3)(g3:(Kd.int .u32).C W A3 x.f3.length x.f3):
  FnAny 41 #[] (.agg #[.int .i64 x.f0,.bool x.f1,.slice A2 x.f2.length c2,.slice A3 x.f3.length c3]) (badS k x) W:=by
 have hu59:=Tryz.underlying59;have e:badS k x=(!b|| (x.f0 !=0)):=by
  unfold badS;rw[hx];have hb2:(x.f0 !=0)=decide (x.f0≠0):=by by_cases h:x.f0=0<;>simp[h]
  rw[hb2];cases b<;>rfl
 rw[e];clear e;have HX:=Aside0.mk hx;have HA2:=Aside0.mk (And.intro g2 l2);have HA3:=Aside0.mk (And.intro g3 l3);clear hx g2 g3 l2 l3;unfold FnAny;go_enter Tryz.func41,Tryz.ntmps41
 go_wp2_with ((with_reducible refine gD 1 ?_);refine bx_ 1 #[.int .i64 x.f0,.bool x.f1,.slice A2 x.f2.length c2,.slice A3 x.f3.length c3] 59 ?_;intro g1 hg w1 hbox hb;have G1:=Aside0.mk hg;have K1:=Aside0.mk hbox;have HB1:=Aside0.mk hb;clear hg hbox hb;obtain⟨x1,x2,x3,x4,x5,x6,x7,x8⟩:=c4Q K1.out)
 refine(frac_IsRat.calls k _ _ _ _ x.f2 _ _ x.f3 b _ (Kd.C_below HA2.out.1 HB1.out) HA2.out.2 (Kd.C_below HA3.out.1 HB1.out) HA3.out.2 HX.out).mono ?_;rintro e w4 ⟨rfl,hb4⟩;have HB4:=Aside0.mk (HB1.out.trans (hb4.mono HB1.out.size));have K4:=Aside0.mk (blk_on K1.out hb4 (blk_lt K1.out));clear hb4 x1 x2 x3 x4 x5 x6 x7 x8;obtain⟨x1,x2,x3,x4,x5,x6,x7,x8⟩:=c4Q K4.out;cases b;all_goals
  go_wp2_with fail
  go_ret;exact⟨rfl,HB4.out⟩
theorem bool_elem{P:Program}{e:TypeId}(he:P.underlying e=some .bool){v:Value}{z:DataW Unit×List MemPlace}(h:plainElem (H:=Unit) P e v=some z): ∃c,v= .bool c:=by
 unfold plainElem at h;rw[he]at h;cases v<;>simp at h
 exact⟨_,rfl⟩
theorem bool_elem_val{P:Program}{e:TypeId}(he:P.underlying e=some .bool){c:Bool}{z:DataW Unit×List MemPlace}(h:plainElem (H:=Unit) P e (.bool c)=some z):z.1= .lit (.bool c):=by
 rw[plainElem_bool he]at h;cases h;rfl
theorem blk1{w:World}{g t:Nat}{x0:Value}(h:w.heap[g]? =some (.cells #[x0] t (0,0)))(a:Value):(w.setCell ⟨g,0,none⟩ a).heap[g]? =some (.cells #[a] t (0,0)):=blk_put h 0 a rfl
theorem brow_at{w:World}{A:Option Addr}{l0:List (List Bool)}(h:Kd.C (Kd.slice 4 Kd.bool) w A l0.length l0)(i:Nat)(hi:i< l0.length): ∃ad A2 c2,A=some ad∧(∀wr,Below w.heap.size w wr→wr.cell? (ad.add i)=some (.slice A2 (l0[i]).length c2))∧(l0[i]).length≤c2∧Kd.C Kd.bool w A2 (l0[i]).length l0[i] :=by
 obtain⟨ad,c,e0,_,hK,hc0⟩:=Kd.C_get h ([] :List Bool) (i:Int) (by omega) (by omega);have hx:l0.getD (Int.toNat i) ([] :List Bool)=l0[i] :=by simp[hi]
 rw[hx]at hK;obtain⟨A2,c2,rfl,hl2,hC2⟩:=hK;have hcell:_=some (Value.slice A2 (l0[i]).length c2):=hc0 0 _ rfl;rw[show(Kd.slice 4 Kd.bool).sz=1 from rfl,Nat.mul_one,Nat.add_zero,Int.toNat_natCast]at hcell;exact⟨ad,A2,c2,e0,fun wr hb=>(hb.cell (World.block_lt_of_cell? w _ hcell)).trans hcell,hl2,hC2⟩
theorem sparse_Spread.calls(k:Nat)(A0:Option Addr)(c0:Nat)(l0:List (List Bool))(A1:Option Addr)(c1:Nat)(l1:List Int)(A2:Option Addr)(c2:Nat)(l2:List (List S59))(r1:List (List S59))(r2:Int)(w:World)(hr0:Kd.C (Kd.slice 4 Kd.bool) w A0 l0.length l0)(hc0:l0.length≤c0)(hr1:Kd.C (Kd.int .i64) w A1 l1.length l1)(hc1:l1.length≤c1)(hr2:Kd.C (Kd.slice 59 k59) w A2 l2.length l2)(hc2:l2.length≤c2)(h:sparse_Spread.f k l0 l1 l2=some (r1,r2)):
  Calls Tryz.prog 10 #[.slice A0 l0.length c0,.slice A1 l1.length c1,.slice A2 l2.length c2] w fun e w'=> ∃v0_:Value,e= .returned (.tuple #[v0_,.int .i64 r2])∧Kd.N (Kd.slice 59 k59) 35 w' w.heap.size (fun k_=>(w.heap.size≤k_)) v0_ r1∧Below w.heap.size w w':=by
 have hn0:l0.length≤9223372036854775807:=hr0.2.1;have hn1:l1.length≤9223372036854775807:=hr1.2.1;have hn2:l2.length≤9223372036854775807:=hr2.2.1;have HR0:=Aside0.mk (And.intro hr0 hc0);have HR1:=Aside0.mk (And.intro hr1 hc1);have HR2:=Aside0.mk (And.intro hr2 hc2);have hu59:=Tryz.underlying59;clear hr0 hr1 hr2 hc0 hc1 hc2;unfold sparse_Spread.f at h;obtain⟨e1,h1,h⟩:=Option.bind_eq_some_iff.1 h;obtain⟨e2,h2,h⟩:=Option.bind_eq_some_iff.1 h;have E1:=Aside0.mk h1;have E2:=Aside0.mk h2;have H:=Aside0.mk h;clear h1 h2 h;go_enter Tryz.func10,Tryz.ntmps10
 go_wp2_with fail
 refine(sparse_form.calls _ _ l0 _ e1 _ HR0.out.1 HR0.out.2 E1.out).mono ?_;rintro e w1 ⟨rfl,hb⟩;have HB1:=Aside0.mk hb;clear hb;by_cases q1:e1=0
 case neg=>
  have h2:=E2.out;rw[if_neg q1]at h2;cases h2;have h:=H.out;rw[if_pos q1]at h;simp only[Option.some.injEq,Prod.mk.injEq]at h;obtain⟨rfl,rfl⟩:=h;have hb:(e1 !=0)=true:=bne_iff_ne.mpr q1;have hb':(e1==0)=false:=beq_eq_false_iff_ne.mpr q1;clear q1 H E2 E1;go_wp2_with fail
  go_ret2;exact⟨_,rfl,Kd.N_nil _ _ _ _ _,HB1.out⟩
 case pos=>
 subst q1;have hl4:l0.length≤4096:=by
  have h1:=E1.out;unfold sparse_form.f at h1;by_cases g:(l0.length:Int) >4096
  ·rw[if_pos g]at h1;simp at h1
  ·omega
 have hl14:l1.length≤4096:=by
  have h1:=E1.out;unfold sparse_form.f at h1;by_cases g:(l0.length:Int) >4096
  ·rw[if_pos g]at h1;simp at h1
  ·rw[if_neg g,if_neg (show¬ (l1.length:Int)< 0 by omega)]at h1;by_cases g2:(l1.length:Int) >4096
   ·rw[if_pos g2]at h1;simp at h1
   ·omega
 clear E1;have h2:=E2.out;rw[if_pos rfl]at h2;have E2:=Aside0.mk h2;clear h2;go_wp2_with fail
 refine(sparse_painted.calls _ _ _ l1 e2 _ (Kd.C_below HR1.out.1 HB1.out) HR1.out.2 E2.out).mono ?_;rintro e w2 ⟨rfl,hb⟩;have HB2:=Aside0.mk (HB1.out.trans (hb.mono HB1.out.size));clear hb HB1 E2;by_cases q2: ¬e2=0
 case pos=>
  have h:=H.out;rw[if_pos q2]at h;simp only[Option.some.injEq,Prod.mk.injEq]at h;obtain⟨rfl,rfl⟩:=h;have hb:(e2 !=0)=true:=bne_iff_ne.mpr q2;clear q2 H;go_wp2_with fail
  go_ret2;exact⟨_,rfl,Kd.N_nil _ _ _ _ _,HB2.out⟩
 case neg=>
 have h:=H.out;rw[if_neg q2]at h;have q2:e2=0:=Classical.not_not.1 q2;subst q2;obtain⟨ft,hft,h⟩:=Option.bind_eq_some_iff.1 h;have HF:=Aside0.mk hft;have H:=Aside0.mk h;clear hft h;go_wp2_with fail
 refine(sparse_fits.calls _ _ l0 _ _ l1 ft _ (Kd.C_below HR0.out.1 HB2.out) HR0.out.2 (Kd.C_below HR1.out.1 HB2.out) HR1.out.2 HF.out).mono ?_;rintro e w3 ⟨rfl,hb⟩;have HB3:=Aside0.mk (HB2.out.trans (hb.mono HB2.out.size));clear hb HB2 HF;cases ft
 case false=>
  have h:=H.out;rw[if_pos rfl]at h;simp only[Option.some.injEq,Prod.mk.injEq]at h;obtain⟨rfl,rfl⟩:=h;clear H;go_wp2_with fail
  go_ret2;exact⟨_,rfl,Kd.N_nil _ _ _ _ _,HB3.out⟩
 case true=>
 have h:=H.out;rw[if_neg (by decide)]at h;obtain⟨⟨s1,s2⟩,hs,h⟩:=Option.bind_eq_some_iff.1 h;have HS:=Aside0.mk hs;have H:=Aside0.mk h;clear hs h;go_wp2_with fail
 refine(sparse_seeded.calls k _ _ l1 s1 s2 _ (Kd.C_below HR1.out.1 HB3.out) HR1.out.2 HS.out).mono ?_;rintro e w4 ⟨rfl,hb⟩;have HB4:=Aside0.mk (HB3.out.trans (hb.mono HB3.out.size));clear hb HB3 HS;go_upto_region 9 with (first
  | ((with_reducible refine gD 9 ?_);refine bx_ 9 #[.int .i64 0] 3 ?_;intro g1 hg w5 hbox hb;have G1:=Aside0.mk (Nat.le_of_eq hg.symm);have K5:=Aside0.mk hbox;have HB5:=Aside0.mk hb;clear hg hbox hb;have y1:=bC K5.out 0;have y2:=blk_frozen K5.out 0)
  | ((with_reducible refine gD 8 ?_);have hk5:=K5;clear K5 y1 y2;generalize hq_:World.setCell w5 ⟨g1,0,none⟩ (.int .i64 s1)=w6;have K1:=Aside0.mk (hq_▸blk1 hk5.out _:w6.heap[g1]? =some (.cells #[.int .i64 s1] 3 (0,0)));have HB6:=Aside0.mk (HB4.out.trans ((hq_▸below_set HB5.out G1.out:Below w4.heap.size w4 w6).mono HB4.out.size));clear hq_ hk5 HB5 G1;have y1:=bC K1.out 0))
 have h:=H.out;by_cases q3: ¬s2=0
 case pos=>
  rw[if_pos q3]at h;simp only[Option.some.injEq,Prod.mk.injEq]at h;obtain⟨rfl,rfl⟩:=h;have hb:(s2 !=0)=true:=bne_iff_ne.mpr q3;clear q3 H;go_wp2_with fail
  go_ret2;exact⟨_,rfl,Kd.N_nil _ _ _ _ _,HB6.out⟩
 case neg=>
 rw[if_neg q3]at h;have q3:s2=0:=Classical.not_not.1 q3;subst q3;by_cases q4: ¬ (l2.length:Int)=(l0.length:Int)
 case pos=>
  rw[if_pos q4]at h;simp only[Option.some.injEq,Prod.mk.injEq]at h;obtain⟨rfl,rfl⟩:=h;have hb:((l2.length:Int) !=(l0.length:Int))=true:=bne_iff_ne.mpr q4;clear q4 H;go_wp2_with fail
  go_ret2;exact⟨_,rfl,Kd.N_nil _ _ _ _ _,HB6.out⟩
 case neg=>
 rw[if_neg q4]at h;have q4:(l2.length:Int)=(l0.length:Int):=Classical.not_not.1 q4;obtain⟨b,hb⟩: ∃b,l2.any (fun row=>decide (¬ (row.length:Int)=s1))=b:=⟨_,rfl⟩;rw[hb]at h;have HP:=Aside0.mk hb;have H:=Aside0.mk h;have hb0:((l2.length:Int) !=(l0.length:Int))=false:=bne_eq_false_iff_eq.mpr q4;have Q4:=Aside0.mk (show l2.length=l0.length by omega);clear hb h q4;go_wp2_with fail
 refine(ContainsFunc_LRat.calls _ _ l2 _ 39 _ _ sparse_Spread.enters1 (Kd.C_below HR2.out.1 HB6.out) (fun W x v hW hK _=>by obtain⟨A,c,hv,_⟩:=hK;cases hv;exact sparse_Spread.lit1 s1 _ W ((blk_cell (blk_on K1.out hW (blk_lt K1.out)) 0).trans rfl) A c x)).mono ?_;rintro e w7 ⟨rfl,hb3⟩;rw[HP.out];have HB7:=Aside0.mk (HB6.out.trans (hb3.mono HB6.out.size));have HL:=Aside0.mk (fun row hrow=>(List.any_eq_false.1 · row hrow): ∀row,row∈l2→l2.any (fun row=>decide (¬ (row.length:Int)=s1))=false→ ¬decide (¬ (row.length:Int)=s1)=true);clear hb3 K1 HB6 y1 hb0;cases b
 case true=>
  have h:=H.out;rw[if_pos rfl]at h;simp only[Option.some.injEq,Prod.mk.injEq]at h;obtain⟨rfl,rfl⟩:=h;clear HL;go_wp2_with fail
  go_ret2;exact⟨_,rfl,Kd.N_nil _ _ _ _ _,HB7.out⟩
 case false=>
 have h:=H.out;rw[if_neg (by decide)]at h;split at h
 case isFalse=>cases h
 case isTrue hall=>
 have HL:=Aside0.mk (fun row hrow=>(by simpa using HL.out row hrow HP.out): ∀row,row∈l2→(row.length:Int)=s1);have HA:=Aside0.mk (fun row hrow x hx=>(by have:=List.all_eq_true.1 (List.all_eq_true.1 hall.1 row hrow) x hx;exact Option.isSome_iff_exists.1 this): ∀row,row∈l2→ ∀x,x∈row→ ∃b,ratOf k x=some b);have HWf:=Aside0.mk hall.2;have H:=Aside0.mk h;clear h hall HP;go_wp2_with fail
 go_loopg [61] l2.length (fun gg s61 wr=> ∃i:Nat,i≤l2.length∧l2.length - i≤gg∧s61= .int .i64 i∧Aside0 (Below w.heap.size w wr)∧Aside0 (∀row,row∈l2.take i→badR k row=false))
 case atStart=>exact⟨0,Nat.zero_le _,by omega,rfl,HB7,⟨by simp⟩⟩
 case round=>
 clear HB7;obtain⟨i,hi,hg,rfl,HB,HT⟩:=hrel;by_cases hlt:i< l2.length
 ·have hltz:(i:Int)< (l2.length:Int):=by omega
  obtain⟨ad,Ar,cr,e0,hx2,hl2,hC2⟩:=row_at HR2.out.1 i hlt;subst e0;obtain⟨row,hrow⟩: ∃row,row=l2[i] :=⟨_,rfl⟩;rw[←hrow]at hx2 hl2 hC2;have hmem:row∈l2:=hrow▸List.getElem_mem _;have hcell:=hx2 _ HB.out;have HC2:=Aside0.mk (Kd.C_below hC2 HB.out);have HM:=Aside0.mk hmem;have HRW:=Aside0.mk hrow;clear hx2 hC2 hmem hrow hl2;obtain⟨b,hb⟩: ∃b,badR k row=b:=⟨_,rfl⟩;have HBR:=Aside0.mk hb;clear hb;go_wp2_with fail
  refine(ContainsFunc_Rat.calls Ar cr row _ 41 #[] (badS k) sparse_Spread.enters2 HC2.out (fun W x A3 c3 A4 c4 hW hx l3 g3 l4 g4=>by obtain⟨b,hb⟩:=HA.out row HM.out x hx;exact sparse_Spread.lit2 k x b hb W A3 c3 A4 c4 l3 g3 l4 g4)).mono ?_;rintro e w8 ⟨rfl,hb4⟩;rw[show row.any (badS k)=b from HBR.out];have HB8:=Aside0.mk (HB.out.trans (hb4.mono HB.out.size));clear hb4 HB;cases b
  case true=>
   have h:=H.out;rw[if_pos (List.any_eq_true.2 ⟨row,HM.out,HBR.out⟩)]at h;simp only[Option.some.injEq,Prod.mk.injEq]at h;obtain⟨rfl,rfl⟩:=h;clear HL HA HT;go_wp2_with fail
   go_ret2;exact⟨_,rfl,Kd.N_nil _ _ _ _ _,HB8.out⟩
  case false=>
   go_wp2_with fail
   go_roundg (l2.length - (i+1))
   case measure=>omega
   case rel=>
    refine⟨i+1,by omega,by omega,by go_num,HB8,⟨fun x hx=>?_⟩⟩;rw[List.take_succ_eq_append_getElem hlt,List.mem_append]at hx;rcases hx with hx|hx
    ·exact HT.out x hx
    ·rw[List.mem_singleton.1 hx,←HRW.out];exact HBR.out
 ·have hltz: ¬ (i:Int)< (l2.length:Int):=by omega
  have:i=l2.length:=by omega
  subst this;have h:=H.out;have hf:l2.any (badR k)=false:=List.any_eq_false.2 (fun x hx=>by rw[HT.out x (by rw[List.take_length];exact hx)];decide);rw[if_neg (by rw[hf];decide)]at h;have H0:=Aside0.mk h;clear hf h H HT HA hi hg;go_wp2_with ((with_reducible refine gD 70 ?_);refine Kd.R_make (Kd.scalar (fun v:Value=>Value.slice none 0 0) (fun _=>rfl)) w.heap.size 35 rfl (N:=70) rfl 24 _ _ rfl (l0.length:Int) rfl rfl Tryz.underlying24 (.slice none 0 0) 24 infoRats rfl (by decide) (by omega) (.slice none 0 0) (ok:=fun _=>True) (okp:=fun _=>True) rfl (fun _ hk=>hk) trivial (by omega) (by omega) HB.out HB.out.size ?_;intro v1 w5 ho hb hgr hnew;have ho2:=Kd.own_of_R ho;rw[List.length_replicate,Int.toNat_natCast]at ho2;obtain⟨g,cap,rfl⟩:=slice_form ho2 (hnew.imp fun b h=>h.1);have HO:=Aside0.mk ho2;have HB5:=Aside0.mk hb;clear ho ho2 hb hnew hgr)
  go_loopg [73] l0.length (fun gg s73 wr=> ∃ (i H0:Nat) (cs:List Value) (done:List (List S59)),i≤l0.length∧l0.length - i≤gg∧s73= .int .i64 i∧Aside0 (RowsAt k59 59 35 wr w.heap.size g cap l0.length i H0 cs done [])∧Aside0 (i< l0.length→cs[i]? =some (.slice none 0 0))∧Aside0 (Below w.heap.size w wr)∧Aside0 (spreadRows k l1 (l0.drop i) (l2.drop i) done=some (r1,r2)))
  case atStart=>
   refine⟨0,w5.heap.size,List.replicate l0.length (.slice none 0 0),[],Nat.zero_le _,by omega,rfl,⟨⟨?_,?_,Nat.le_refl _,HB5.out.size,by simp,rfl,fun j x u hx=>by simp at hx,fun hc=>⟨_,by rw[List.getElem?_replicate,if_pos hc],Kd.N_nil _ _ _ _ _⟩,fun j _ hj=>by rw[List.getElem?_replicate,if_pos hj]⟩⟩,⟨fun hc=>by rw[List.getElem?_replicate,if_pos hc]⟩,HB5,H0⟩
   ·have:=HO.out
    simpa [encs]using this
   ·exact(HO.out.lt g (by simp[Value.ownBlock])).2
  case round=>
  clear H0 HB5 HO HB;obtain⟨i,H0,cs,done,hi,hgi,rfl,HR,HN0,HB,HP⟩:=hrel;by_cases hlt:i< l0.length
  ·have hltz:(i:Int)< (l0.length:Int):=by omega
   have hlt2:i< l2.length:=by have:=Q4.out;omega
   have hltz2:(i:Int)< (l2.length:Int):=by omega
   obtain⟨adp,Ap,cp,e0,hp2,hlp,hCp⟩:=brow_at HR0.out.1 i hlt;obtain⟨adf,Af,cf,e1,hf2,hlf,hCf⟩:=row_at HR2.out.1 i hlt2;subst e0 e1;have hd0:l0.drop i=l0[i] ::l0.drop (i+1):=List.drop_eq_getElem_cons hlt;have hd2:l2.drop i=l2[i] ::l2.drop (i+1):=List.drop_eq_getElem_cons hlt2;obtain⟨row,hrow⟩: ∃row,row=l0[i] :=⟨_,rfl⟩;obtain⟨fr,hfr⟩: ∃fr,fr=l2[i] :=⟨_,rfl⟩;rw[←hrow]at hp2 hlp hCp hd0;rw[←hfr]at hf2 hlf hCf hd2;have x1:=hp2 _ HB.out;have x2:=hf2 _ (HB.out.alloc HB.out.size (.map #[] 0));have hP:=HP.out;rw[hd0,hd2,spreadRows]at hP;split at hP
   case isFalse=>cases hP
   case isTrue hcap=>
   obtain⟨hfl,hrl⟩:=hcap;obtain⟨rr,hrr,hP⟩:=Option.bind_eq_some_iff.1 hP;have HP:=Aside0.mk hP;have HRow:=Aside0.mk hrr;have HCp:=Aside0.mk hCp;have HCf:=Aside0.mk hCf;have HF2:=Aside0.mk hf2;have hn3:row.length≤9223372036854775807:=hCp.2.1;have hn4:fr.length≤9223372036854775807:=hCf.2.1;have hRL:=Aside0.mk hrl;clear hP hrr hd0 hd2 hrow hfr hp2 hf2 hCp hCf hrl;have hmm:= @run_makeMap Tryz.prog;obtain⟨wo,hwo⟩: ∃wo:World,wo=wr:=⟨_,rfl⟩;subst hwo;go_wp2_with fail
   go_loopg [84] fr.length (fun gg s84 w'=> ∃c:Nat,c≤fr.length∧fr.length - c≤gg∧s84= .int .i64 c∧Aside0 (Below wo.heap.size wo w')∧Aside0 (IntSet w' wo.heap.size c (leftN fr c)))
   case atStart=>exact⟨0,Nat.zero_le _,by omega,rfl,⟨(Below.refl _ _).alloc (Nat.le_refl _) _⟩,⟨(IntSet.made wo).congr (fun x=>(leftN_zero fr x).symm)⟩⟩
   case round=>
   clear x1 x2 hmm;obtain⟨c,hc,hgc,rfl,HBo,HS⟩:=hrel;by_cases hct:c< fr.length
   ·have hctz:(c:Int)< (fr.length:Int):=by omega
    have HBw:=Aside0.mk (HB.out.trans (HBo.out.mono HB.out.size));obtain⟨ad2,X2,e2,X3,e3,e0,hx0,hx1,hx2,hx3,hl2',hi2,hl3',hi3⟩:=at_T59 (Kd.C_below HCf.out HBw.out) (c:Int) (by omega) (by omega);subst e0;have hx:rd_T59 fr (c:Int)=fr[c] :=by unfold rd_T59;simp[hct]
    obtain⟨x,hxx⟩: ∃x,x=fr[c] :=⟨_,rfl⟩;rw[hx,←hxx]at hx0 hx1 hx2 hx3 hl2' hi2 hl3' hi3;simp only[Int.toNat_natCast]at hx0 hx1 hx2 hx3;have hxd:fr.getD c dRat=x:=by rw[hxx];simp[hct]
    have HXD:=Aside0.mk hxd;have hwf:(Lit.int .i64 (c:Int)).wf=true:=WalkArith.wf_i64 ⟨by omega,by omega⟩;have HWFc:=Aside0.mk hwf;clear hxd hxx hx hi2 hi3 hl2' hl3' hwf;go_wp2_with (first
     | ((with_reducible refine gD 17 ?_);refine bx_ 17 #[.int .i64 0,.bool false,.slice none 0 0,.slice none 0 0] 59 ?_;intro g6 hg w5 hbox hb;have G6:=Aside0.mk (Nat.le_of_eq hg.symm);have K5:=Aside0.mk hbox;have HB5:=Aside0.mk hb;clear hg hbox hb;obtain⟨y1,y2,y3,y4,y5,y6,y7,y8⟩:=c4Q K5.out)
     | (at_mapUpdate;have hk5:=K5;clear K5 y1 y2 y3 y4 y5 y6 y7 y8;generalize hq_:World.setCell (World.setCell (World.setCell (World.setCell w5 ⟨g6,0,none⟩ (.int .i64 x.f0)) ⟨g6,1,none⟩ (.bool x.f1)) ⟨g6,2,none⟩ (.slice X2 x.f2.length e2)) ⟨g6,3,none⟩ (.slice X3 x.f3.length e3)=w6;have K6:=Aside0.mk (hq_▸blk4 hk5.out _ _ _ _:w6.heap[g6]? =some (.cells #[.int .i64 x.f0,.bool x.f1,.slice X2 x.f2.length e2,.slice X3 x.f3.length e3] 59 (0,0)));have HB6:=Aside0.mk (hq_▸below_sum HB5.out G6.out _ _ _ _:Below wr.heap.size wr w6);clear hq_ hk5 HB5;have HS6:=Aside0.mk (HS.out.kept (HB6.out.block _ HS.out.lt));(refine wpList_intset_put _ rfl _ _ _ rfl wo.heap.size c (leftN fr c) rfl HS6.out (by unfold maxLen;omega) (c:Int) _ rfl rfl HWFc.out ?_);intro w7 hs7 hg7;have HS7:=Aside0.mk hs7;have HG7:=Aside0.mk hg7;clear hs7 hg7))
    go_roundg (fr.length - (c+1))
    case measure=>omega
    case rel=>
     refine⟨c+1,by omega,by omega,by go_num,⟨(HBo.out.trans (HB6.out.mono HBo.out.size)).grown HG7.out (Nat.le_trans HBo.out.size HB6.out.size) (fun b hb=>by cases hb;exact Nat.le_refl _)⟩,⟨HS7.out.congr (fun y=>?_)⟩⟩;rw[←leftN_succ,HXD.out]
   ·have hctz: ¬ (c:Int)< (fr.length:Int):=by omega
    have:c=fr.length:=by omega
    subst this;have HBw:=Aside0.mk (HB.out.trans (HBo.out.mono HB.out.size));have RB:=Aside0.mk (RowsAt.toB HR.out (HN0.out hlt) HBo.out wo.heap.size HR.out.hw HS.out.lt);have HS:=Aside0.mk (HS.out.congr (leftK_zero fr row l1));obtain⟨H1,hH1⟩: ∃H1,H1=wr.heap.size:=⟨_,rfl⟩;rw[←hH1]at RB;clear HR HN0 HB HBo hH1;go_wp2_with fail
    go_loopg [98] row.length (fun gg s98 w'=> ∃ (j:Nat) (cs:List Value) (part:List S59),j≤row.length∧row.length - j≤gg∧part.length≤j∧s98= .int .i64 j∧Aside0 (RowsB k59 59 35 w' w.heap.size g cap l0.length i H0 wo.heap.size H1 cs done part)∧Aside0 (Below w.heap.size w w')∧Aside0 (IntSet w' wo.heap.size (fr.length+j) (leftK fr row l1 j))∧Aside0 (spreadRow k l1 fr (row.drop j) j part=some rr))
    case atStart=>exact⟨0,cs,[],Nat.zero_le _,by omega,by simp,rfl,RB,HBw,HS,⟨by rw[List.drop_zero];exact HRow.out⟩⟩
    case round=>
    clear RB HBw HS HRow;obtain⟨j,cs,part,hj,hgj,hpl,rfl,RB,HB,HS,HRow⟩:=hrel;obtain⟨wa,rfl⟩: ∃wa,wa=wr:=⟨wr,rfl⟩;by_cases hjt:j< row.length
    ·have hjtz:(j:Int)< (row.length:Int):=by omega
     have hjl:j< l1.length:=by have:=hRL.out;omega
     have hjlz:(j:Int)< (l1.length:Int):=by omega
     obtain⟨adb,eb,hxb⟩:=Kd.at_bool (Kd.C_below HCp.out HB.out) (j:Int) (by omega) (by omega);subst eb;simp only[rdOf,Int.toNat_natCast]at hxb;obtain⟨bj,hbj⟩: ∃bj,bj=row.getD j false:=⟨_,rfl⟩;rw[←hbj]at hxb;have hd1:row.drop j=bj::row.drop (j+1):=by rw[List.drop_eq_getElem_cons hjt,hbj];simp[hjt]
     have hR:=HRow.out;rw[hd1,spreadRow]at hR;obtain⟨⟨t1,t2,t3,t4⟩,hw0,hR⟩:=Option.bind_eq_some_iff.1 hR;have HW:=Aside0.mk hw0;have HRow:=Aside0.mk hR;have HBJ:=Aside0.mk hbj.symm;have HXB:=Aside0.mk hxb;clear hR hw0 hd1 hbj;go_wp2_with fail
     (with_reducible refine(sparse_whole.calls k _ t1 t2 t3 t4 _ HW.out).mono ?_);rintro e w3 ⟨v2,v3,rfl,hv2,hv3,hb3⟩;obtain⟨B2,d2,rfl⟩:=Kd.V_slice hv2;obtain⟨B3,d3,rfl⟩:=Kd.V_slice hv3;have HV:=Aside0.mk (And.intro (Kd.V_bound hv2) (Kd.V_bound hv3));have HB3:=Aside0.mk hb3;clear hv2 hv3 hb3 hxb;go_upto_if 104 with ((with_reducible refine gD 20 ?_);refine bx_ 20 #[.int .i64 0,.bool false,.slice none 0 0,.slice none 0 0] 59 ?_;intro g4 hg w4 hbox hb;have G4:=Aside0.mk (Nat.le_of_eq hg.symm);have K4:=Aside0.mk hbox;have HB4:=Aside0.mk hb;clear hg hbox hb;obtain⟨y1,y2,y3,y4,y5,y6,y7,y8⟩:=c4Q K4.out)
     clear y1 y2 y3 y4 y5 y6 y7 y8;generalize hq_:World.setCell (World.setCell (World.setCell (World.setCell w4 ⟨g4,0,none⟩ (.int .i64 t1)) ⟨g4,1,none⟩ (.bool t2)) ⟨g4,2,none⟩ (.slice B2 t3.length d2)) ⟨g4,3,none⟩ (.slice B3 t4.length d3)=w5;have K5:=Aside0.mk (hq_▸blk4 K4.out _ _ _ _:w5.heap[g4]? =some (.cells #[.int .i64 t1,.bool t2,.slice B2 t3.length d2,.slice B3 t4.length d3] 59 (0,0)));have HB5:=Aside0.mk (HB3.out.trans ((hq_▸below_sum HB4.out G4.out _ _ _ _:Below w3.heap.size w3 w5).mono HB3.out.size));have HV5:=Aside0.mk (hq_▸And.intro (V_sum HV.out.1 HB4.out G4.out _ _ _ _) (V_sum HV.out.2 HB4.out G4.out _ _ _ _):Kd.V (Kd.int .u32) 60 w5 w3.heap.size (fun k=>wa.heap.size≤k∧k≠g4) (.slice B2 t3.length d2) t3∧Kd.V (Kd.int .u32) 60 w5 w3.heap.size (fun k=>wa.heap.size≤k∧k≠g4) (.slice B3 t4.length d3) t4);have HG4:=Aside0.mk (Nat.le_trans HB3.out.size G4.out);clear hq_ K4 HB4 HB3 G4 HV;go_cut [] (fun wc=> ∃ (x:S59) (u2 u3:Value),Aside0 (wc.heap[g4]? =some (.cells #[.int .i64 x.f0,.bool x.f1,u2,u3] 59 (0,0)))∧Aside0 (Kd.V (Kd.int .u32) 60 wc wa.heap.size (fun k=>wa.heap.size≤k∧k≠g4) u2 x.f2∧Kd.V (Kd.int .u32) 60 wc wa.heap.size (fun k=>wa.heap.size≤k∧k≠g4) u3 x.f3)∧Aside0 (wa.heap.size≤wc.heap.size∧ ∀k,k< wa.heap.size→k≠wo.heap.size→wc.heap[k]? =wa.heap[k]?)∧Aside0 (Below w.heap.size w wc)∧Aside0 (IntSet wc wo.heap.size (fr.length+ (j+1)) (leftK fr row l1 (j+1)))∧Aside0 (spreadRow k l1 fr (row.drop (j+1)) (j+1) (part++ [x])=some rr))
     case first=>
      cases bj
      case false=>
       have hR:=HRow.out;rw[if_neg (by decide)]at hR;have HR':=Aside0.mk hR;clear hR;go_wp2_with fail
       go_meet
       case rel=>
        exact⟨⟨t1,t2,t3,t4⟩,_,_,K5,HV5,⟨⟨HB5.out.size,fun k hk _=>HB5.out.block k hk⟩⟩,⟨HB.out.trans (HB5.out.mono HB.out.size)⟩,⟨((HS.out.kept (HB5.out.block _ HS.out.lt)).mono (by omega)).congr (leftK_false HBJ.out)⟩,HR'⟩
      case true=>
       have hR:=HRow.out;rw[if_pos rfl]at hR;split at hR
       case isFalse=>cases hR
       case isTrue hcc=>
       obtain⟨hd0,hd1,hcl⟩:=hcc;obtain⟨d,hdd⟩: ∃d,d=l1.getD j 0:=⟨_,rfl⟩;obtain⟨ad1,e1,hc⟩:=Kd.at_int HR1.out.1 (j:Int) (by omega) (by omega);subst e1;simp only[rd,Int.toNat_natCast]at hc;have hwf0:=wfInts_at HWf.out hjl;rw[←hdd]at hd0 hd1 hcl hR hc hwf0;obtain⟨ad2,X2,e2,X3,e3,e0,hx0,hx1,hx2,hx3,hl2',hi2,hl3',hi3⟩:=at_T59 HCf.out d hd0 hd1;subst e0;have hdl:d.toNat< fr.length:=by omega
       have hx:rd_T59 fr d=fr.getD d.toNat dRat:=by unfold rd_T59;simp[List.getD_eq_getElem?_getD,hdl]
       obtain⟨x,hxx⟩: ∃x,x=fr.getD d.toNat dRat:=⟨_,rfl⟩;rw[hx,←hxx]at hx0 hx1 hx2 hx3 hl2' hi2 hl3' hi3;rw[←hxx]at hcl hR;have HR':=Aside0.mk hR;have HX2:=Aside0.mk (And.intro hi2 hl2');have HX3:=Aside0.mk (And.intro hi3 hl3');have HCl:=Aside0.mk (show x.f2.length< 35184372088832∧x.f3.length< 35184372088832 by unfold cloned at hcl;simpa [Bool.and_eq_true,decide_eq_true_eq]using hcl);have HBw:=Aside0.mk (HB.out.trans (HB5.out.mono HB.out.size));have HDD:=Aside0.mk hdd;have HWd:=Aside0.mk hwf0;have HC1:=Aside0.mk hc;have hd0':=eq_true hd0;have hd1':=eq_true hd1;have s1:=HF2.out _ HBw.out.drew;have s2:=cE HBw.out.drew hc;have s3:=cE HBw.out.drew hx0;have s4:=cE HBw.out.drew hx1;have s5:=cE HBw.out.drew hx2;have s6:=cE HBw.out.drew hx3;clear hR hcl hxx hx hl2' hi2 hl3' hi3 hdd hwf0 hc hx0 hx1 hx2 hx3 hd0 hd1 hdl;go_wp2_with fail
       refine start_ (n:=11) (S:=fun w'=>w'.cell? (adf.add i)=some (.slice (some ad2) fr.length cf)∧w'.cell? (ad1.add j)=some (.int .i64 d)∧w'.cell? (ad2.add (d.toNat * 4))=some (.int .i64 x.f0)∧w'.cell? ⟨(ad2.add (d.toNat * 4)).block,(ad2.add (d.toNat * 4)).off+1,none⟩=some (.bool x.f1)∧w'.cell? ⟨(ad2.add (d.toNat * 4)).block,(ad2.add (d.toNat * 4)).off+2,none⟩=some (.slice X2 x.f2.length e2)∧w'.cell? ⟨(ad2.add (d.toNat * 4)).block,(ad2.add (d.toNat * 4)).off+3,none⟩=some (.slice X3 x.f3.length e3)) (ds:= [10]) (M_ 11 0) (by kernel_rfl) rfl (by kernel_rfl) ⟨s1,s2,s3,s4,s5,s6⟩ (fun hHeld=>?_);clear s1 s2 s3 s4 s5 s6;have K5d:=Aside0.mk (blk_drew K5.out);have HB5d:=Aside0.mk HB5.out.drew;clear K5 HB5 HV5 HBw;generalize w5.drew=w5d at hHeld K5d HB5d ⊢;refine pu_ 0 (some 105) (M_ 11 1) ?_;refine pu_ 1 (some 106) (M_ 11 3) ?_;refine pu_ 2 (some 107) (M_ 11 7) ?_;refine pu_ 4 (some 109) (M_ 11 23) ?_;refine pu_ 5 (some 110) (M_ 11 55) ?_;refine pu_ 6 (some 111) (M_ 11 119) ?_;refine ta_ 3 (some 108) (M_ 11 127) hHeld ?_;refine ta_ 7 (some 112) (M_ 11 255) hHeld ?_;refine pu_ 8 (some 113) (M_ 11 511) ?_;refine ta_ 9 (some 114) (M_ 11 1023) hHeld ?_;refine last_ (i:=10) (N:=none) (M_ 11 2047) rfl rfl (by kernel_rfl) (by decide) (fun K hK=>?_);obtain⟨y1,y2,y3,y4,y5,y6,y7,y8⟩:=c4Q K5d.out;refine skip_ (w1:=?_) (by rfl) rfl ?_ ?_;rotate_left
       ·go_simp;rfl
       refine hK.out _ _ ?_;clear hK K y1 y2 y3 y4 y5 y6 y7 y8;refine done_ (by kernel_rfl) ?_;generalize hq_:World.setCell (World.setCell (World.setCell (World.setCell w5d ⟨g4,0,none⟩ (.int .i64 x.f0)) ⟨g4,1,none⟩ (.bool x.f1)) ⟨g4,2,none⟩ (.slice X2 x.f2.length e2)) ⟨g4,3,none⟩ (.slice X3 x.f3.length e3)=w6;have K6:=Aside0.mk (hq_▸blk4 K5d.out _ _ _ _:w6.heap[g4]? =some (.cells #[.int .i64 x.f0,.bool x.f1,.slice X2 x.f2.length e2,.slice X3 x.f3.length e3] 59 (0,0)));have HB6:=Aside0.mk (hq_▸below_sum HB5d.out HG4.out _ _ _ _:Below wa.heap.size wa w6);clear hq_ K5d HB5d;have HBw:=Aside0.mk (HB.out.trans (HB6.out.mono HB.out.size));go_wp2_with fail
       refine start_ (n:=10) (S:=fun w'=>w'.cell? ⟨g4,3,none⟩=some (.slice X3 x.f3.length e3)) (ds:= [9]) (M_ 10 0) (by kernel_rfl) rfl (by kernel_rfl) (((blk_cell (blk_drew K6.out) 3).trans rfl)) (fun hHeld=>?_);have K6d:=Aside0.mk (blk_drew K6.out);have HB6d:=Aside0.mk HB6.out.drew;have HBwd:=Aside0.mk HBw.out.drew;clear K6 HB6 HBw;generalize w6.drew=w6d at hHeld K6d HB6d HBwd ⊢;refine pu_ 0 (some 115) (M_ 10 1) ?_;refine pu_ 3 (some 118) (M_ 10 9) ?_;refine ta_ 4 (some 119) (M_ 10 25) hHeld ?_;refine one_ (i:=1) (N:=some 116) (M_ 10 27) rfl rfl (by kernel_rfl) (by decide) (fun K hK=>?_);obtain⟨y1,y2,y3,y4,y5,y6,y7,y8⟩:=c4Q K6d.out;refine value_ (w1:=?_) (v:=?_) (by rfl) rfl ?_ ?_;rotate_left 2
       ·go_simp;constructor
        ·rfl
        ·rfl
       refine hK.out _ _ hHeld (fun hHeld=>?_);clear hK K y1 y2 y3 y4 y5 y6 y7 y8;refine no_ 116 ?_;refine one_ (i:=2) (N:=some 117) (M_ 10 31) rfl rfl (by kernel_rfl) (by decide) (fun K hK=>?_);refine goes_ Tryz.func44 (by kernel_rfl) rfl #[.slice X2 x.f2.length e2] (by rfl) rfl rfl mQ ?_;refine(slices_Clone_uint32_uint32.calls X2 e2 x.f2 x.f2 _ (Kd.C_below HX2.out.1 HBwd.out) HX2.out.2 (by unfold slices_Clone_uint32_uint32.f;rw[if_pos HCl.out.1])).mono ?_;rintro e w7 ⟨v7,rfl,hv7,hb7⟩;obtain⟨A7,c7,rfl⟩:=Kd.R_slice hv7;have HG6:=Aside0.mk (blk_lt K6d.out);have V7:=Aside0.mk (Kd.R_V (base':=wa.heap.size) (Kd.R_mono (Kd.R_bound hv7) (fun k hk=>(show wa.heap.size≤k∧k≠g4 from⟨Nat.le_trans HB6d.out.size hk.2.1,fun e=>by have h1:=hk.2.1;have h2:=HG6.out;omega⟩))));have K7:=Aside0.mk (blk_on K6d.out hb7 HG6.out);have HB7:=Aside0.mk (HB6d.out.trans (hb7.mono HB6d.out.size));have HBw7:=Aside0.mk (HBwd.out.trans (hb7.mono HBwd.out.size));have HG7:=Aside0.mk (Nat.lt_of_lt_of_le HG6.out hb7.size);refine⟨_,rfl,?_⟩;refine hK.out _ _ (bC K7.out 3) (fun hHeld=>?_);clear hK K hv7 hb7 K6d HB6d HBwd HG6;refine no_ 117 ?_;refine pu_ 6 (some 121) (M_ 10 95) ?_;refine one_ (i:=5) (N:=some 120) (M_ 10 127) rfl rfl (by kernel_rfl) (by decide) (fun K hK=>?_);refine goes_ Tryz.func44 (by kernel_rfl) rfl #[.slice X3 x.f3.length e3] (by rfl) rfl rfl mQ ?_;refine(slices_Clone_uint32_uint32.calls X3 e3 x.f3 x.f3 _ (Kd.C_below HX3.out.1 HBw7.out) HX3.out.2 (by unfold slices_Clone_uint32_uint32.f;rw[if_pos HCl.out.2])).mono ?_;rintro e w8 ⟨v8,rfl,hv8,hb8⟩;obtain⟨A8,c8,rfl⟩:=Kd.R_slice hv8;have V8:=Aside0.mk (Kd.R_V (base':=wa.heap.size) (Kd.R_mono (Kd.R_bound hv8) (fun k hk=>(show wa.heap.size≤k∧k≠g4 from⟨Nat.le_trans HB7.out.size hk.2.1,fun e=>by have h1:=hk.2.1;have h2:=HG7.out;omega⟩))));have K8:=Aside0.mk (blk_on K7.out hb8 HG7.out);have V78:=Aside0.mk (Kd.V_below V7.out hb8);have HB8:=Aside0.mk (HB7.out.trans (hb8.mono HB7.out.size));have HBw8:=Aside0.mk (HBw7.out.trans (hb8.mono HBw7.out.size));refine⟨_,rfl,?_⟩;refine hK.out _ _ (bC K8.out 3) (fun hHeld=>?_);clear hK K hv8 hb8;refine no_ 120 ?_;refine one_ (i:=7) (N:=none) (M_ 10 255) rfl rfl (by kernel_rfl) (by decide) (fun K hK=>?_);obtain⟨y1,y2,y3,y4,y5,y6,y7,y8⟩:=c4Q K8.out;refine skip_ (w1:=?_) (by rfl) rfl ?_ ?_;rotate_left
       ·go_simp;rfl
       have K9:=Aside0.mk (blk_put K8.out 2 (.slice A7 x.f2.length c7) rfl);refine hK.out _ _ (bC K9.out 3) (fun hHeld=>?_);clear hK K y1 y2 y3 y4 y5 y6 y7 y8;generalize hq_:World.setCell w8 ⟨g4,2,none⟩ (.slice A7 x.f2.length c7)=w9 at K9 hHeld ⊢;have V9:=Aside0.mk (hq_▸Kd.V_far (p:=⟨g4,2,none⟩) V78.out (fun _ hk=>hk.2) (.slice A7 x.f2.length c7):Kd.V (Kd.int .u32) 60 w9 wa.heap.size (fun k=>wa.heap.size≤k∧k≠g4) (.slice A7 x.f2.length c7) x.f2);replace V8:=Aside0.mk (hq_▸Kd.V_far (p:=⟨g4,2,none⟩) V8.out (fun _ hk=>hk.2) (.slice A7 x.f2.length c7):Kd.V (Kd.int .u32) 60 w9 wa.heap.size (fun k=>wa.heap.size≤k∧k≠g4) (.slice A8 x.f3.length c8) x.f3);have HB9:=Aside0.mk (hq_▸below_set HB8.out HG4.out:Below wa.heap.size wa w9);have HBw9:=Aside0.mk (hq_▸below_set HBw8.out (Nat.le_trans HB.out.size HG4.out):Below w.heap.size w w9);clear hq_ K8 V78 HB8 HBw8 K7 V7 HB7 HBw7 HG7;refine pu_ 8 (some 122) (M_ 10 511) ?_;refine last_ (i:=9) (N:=none) (M_ 10 1023) rfl rfl (by kernel_rfl) (by decide) (fun K hK=>?_);obtain⟨y1,y2,y3,y4,y5,y6,y7,y8⟩:=c4Q K9.out;refine skip_ (w1:=?_) (by rfl) rfl ?_ ?_;rotate_left
       ·go_simp;rfl
       refine hK.out _ _ ?_;clear hK K y1 y2 y3 y4 y5 y6 y7 y8;refine done_ (by kernel_rfl) ?_;generalize hq_:World.setCell w9 ⟨g4,3,none⟩ (.slice A8 x.f3.length c8)=w10;have K10:=Aside0.mk (hq_▸blk_put K9.out 3 (.slice A8 x.f3.length c8) rfl:w10.heap[g4]? =some (.cells #[.int .i64 x.f0,.bool x.f1,.slice A7 x.f2.length c7,.slice A8 x.f3.length c8] 59 (0,0)));have V10:=Aside0.mk (hq_▸And.intro (Kd.V_far (p:=⟨g4,3,none⟩) V9.out (fun _ hk=>hk.2) (.slice A8 x.f3.length c8)) (Kd.V_far (p:=⟨g4,3,none⟩) V8.out (fun _ hk=>hk.2) (.slice A8 x.f3.length c8)):Kd.V (Kd.int .u32) 60 w10 wa.heap.size (fun k=>wa.heap.size≤k∧k≠g4) (.slice A7 x.f2.length c7) x.f2∧Kd.V (Kd.int .u32) 60 w10 wa.heap.size (fun k=>wa.heap.size≤k∧k≠g4) (.slice A8 x.f3.length c8) x.f3);have HB10:=Aside0.mk (hq_▸below_set HB9.out HG4.out:Below wa.heap.size wa w10);have HBw10:=Aside0.mk (hq_▸below_set HBw9.out (Nat.le_trans HB.out.size HG4.out):Below w.heap.size w w10);have HS10:=Aside0.mk (HS.out.kept (HB10.out.block _ HS.out.lt));have s1:=cE HBw10.out HC1.out;clear hq_ K9 V9 V8 HB9 HBw9;go_wp2_with (at_mapUpdate;(refine wpList_intset_put _ rfl _ _ _ rfl wo.heap.size (fr.length+j) (leftK fr row l1 j) rfl HS10.out (by have:=hRL.out;unfold maxLen;omega) d false rfl rfl HWd.out ?_);intro w11 hs11 hg11;have HS11:=Aside0.mk hs11;have HG11:=Aside0.mk hg11;clear hs11 hg11)
       go_meet
       case rel=>
        have hlb:wo.heap.size< wa.heap.size:=HS.out.lt;refine⟨x,_,_,⟨(HG11.out.block g4 (blk_lt K10.out) (fun e=>by have:=Option.some.inj e;have:=HG4.out;omega)).trans K10.out⟩,⟨⟨Kd.V_grown V10.out.1 HG11.out (fun k hk e=>by have:=Option.some.inj e;have:=hk.1;omega),Kd.V_grown V10.out.2 HG11.out (fun k hk e=>by have:=Option.some.inj e;have:=hk.1;omega)⟩⟩,⟨⟨Nat.le_trans HB10.out.size HG11.out.size,fun k hk hn=>(HG11.out.block k (Nat.lt_of_lt_of_le hk HB10.out.size) (fun e=>hn (Option.some.inj e))).trans (HB10.out.block k hk)⟩⟩,⟨HBw10.out.grown HG11.out HBw10.out.size (fun b hb=>by cases hb;have:=RB.out.hb0;have:=RB.out.hb;omega)⟩,⟨HS11.out.congr (fun y=>?_)⟩,HR'⟩;rw[HDD.out];exact leftK_true HBJ.out y
     case rest=>
      obtain⟨x,u2,u3,K5c,HVc,HKeep,HBc,HSc,HRc⟩:=hcut;clear HRow HW HXB HBJ K5 HB5 HV5;obtain⟨U2,d4,rfl⟩:=Kd.V_slice HVc.out.1;obtain⟨U3,d5,rfl⟩:=Kd.V_slice HVc.out.2;have RBc:=Aside0.mk (RB.out.step HKeep.out.1 HKeep.out.2);obtain⟨vc,hvc,hN⟩:=RB.out.now hlt;have hlb:wo.heap.size< H1:=RB.out.hb1;have HNd:=Aside0.mk (Kd.N_step (w1:=wc.drew) hN (fun k hk hlt'=>HKeep.out.2 k hlt' (by have hk:H1≤k:=hk;omega)));have HN:=Aside0.mk hN;have HVw:=Aside0.mk (And.intro (Kd.V_drew HVc.out.1) (Kd.V_drew HVc.out.2));have hcell:=(RBc.out.cell hvc).1;have RBd:=Aside0.mk (RBc.out.below ((Below.refl wc.heap.size wc).drew));have HBd:=Aside0.mk HBc.out.drew;obtain⟨Ac,cc,rfl,hlc,_⟩:=Kd.N_reads hN;have Hvc:=Aside0.mk hvc;clear hN;go_wp2_with fail
      refine start_ (n:=11) (S:=fun w'=>w'.cell? ⟨g,i,none⟩=some (.slice Ac part.length cc)∧w'.heap[g4]? =some (.cells #[.int .i64 x.f0,.bool x.f1,.slice U2 x.f2.length d4,.slice U3 x.f3.length d5] 59 (0,0))) (ds:= [10]) (M_ 11 0) (by kernel_rfl) rfl (by kernel_rfl) ⟨hcell,K5c.out⟩ (fun hHeld=>?_);refine pu_ 0 (some 128) (M_ 11 1) ?_;refine pu_ 1 (some 129) (M_ 11 3) ?_;refine pu_ 2 (some 130) (M_ 11 7) ?_;refine pu_ 3 (some 131) (M_ 11 15) ?_;refine pu_ 4 (some 132) (M_ 11 31) ?_;refine ta_ 5 (some 133) (M_ 11 63) hHeld ?_;refine take_ (i:=6) (N:=some 134) (v:=?_) (a':=?_) (M_ 11 127) rfl rfl (by kernel_rfl) (fun _ _ _ h=>h) (Or.inl ⟨by rfl,?_⟩) hHeld ?_ ?_;rotate_left
      ·intro w' s0;obtain⟨s1,s2⟩:=s0;obtain⟨y1,y2,y3,y4,y5,y6,y7,y8⟩:=c4Q s2;go_simp;with_reducible rfl
      rotate_left
      ·simp only[Act.put,List.setIfInBounds_toArray,List.set_cons_zero,List.set_cons_succ];rfl
      refine one_ (i:=7) (N:=some 135) (M_ 11 255) rfl rfl (by kernel_rfl) (by decide) (fun K hK=>?_);refine value_ (w1:=?_) (v:=?_) (by rfl) rfl ?_ ?_;rotate_left 2
      ·go_simp;constructor
       ·rfl
       ·rfl
      refine hK.out _ _ ⟨((RBd.out.below (below_alloc (Below.refl _ _) _)).cell hvc).1,blk_alloc K5c.out _⟩ (fun hHeld=>?_);clear hK K;refine no_ 135 ?_;refine one_ (i:=8) (N:=some 136) (M_ 11 511) rfl rfl (by kernel_rfl) (by decide) (fun K hK=>?_);refine Kd.N_append_step k59 (w0:=wc.drew) (W:=wc.drew) H1 (by rfl) (.tmp 133) (.tmp 135) 35 59 (.agg #[.int .i64 0,.bool false,.slice none 0 0,.slice none 0 0]) 64 rfl Tryz.underlying35 infoRat rfl (by decide) (by omega) (.slice Ac part.length cc) part x [.int .i64 x.f0,.bool x.f1,.slice U2 x.f2.length d4,.slice U3 x.f3.length d5] (fun k=>H1≤k) (fun k=>wa.heap.size≤k∧k≠g4) rfl rfl ?hp ?hokp ?hfresh ?HO ?HB ?hbase ?hl ?_;(case hp=>exact k59_mkF _ _ x (Kd.V_at HVw.out.1).2.1 (Kd.V_at HVw.out.1).2.2 (Kd.V_at HVw.out.2).2.1 (Kd.V_at HVw.out.2).2.2);(case hokp=>exact fun k hk=>⟨Nat.le_trans RB.out.hw hk.1,fun e=>by have h1:=Kd.N_lt HN.out k e.symm;have hk:=hk.1;omega⟩);(case hfresh=>exact fun k hk=>Nat.le_trans RBd.out.hw hk);(case HO=>exact HNd.out);(case HB=>exact Below.refl _ _);(case hbase=>exact RBd.out.hw);(case hl=>have:=hRL.out;omega);intro v1 w5e hN5 _ hg5 _;obtain⟨A5,c5,rfl,_⟩:=Kd.N_reads hN5;rw[List.length_append,List.length_singleton]at hN5;have hown:=N_own_ge HNd.out;obtain⟨hc5,hf5⟩:=(RBd.out.toA).after hg5 (fun k hk=>by have:=hown k hk;have:=RBd.out.hb0;omega) hvc;have K5e:=Aside0.mk ((hg5.block g4 (blk_lt K5c.out) (fun e=>by have h1:=Kd.N_lt HN.out g4 e.symm;have h2:=HG4.out;omega)).trans K5c.out);have HN5:=Aside0.mk hN5;have HG5:=Aside0.mk hg5;clear hN5 hg5;refine hK.out _ _ ⟨hc5,K5e.out⟩ (fun hHeld=>?_);clear hK K;refine no_ 136 ?_;refine pu_ 9 (some 137) (M_ 11 1023) ?_;refine last_ (i:=10) (N:=none) (M_ 11 2047) rfl rfl (by kernel_rfl) (by decide) (fun K hK=>?_);refine skip_ (w1:=?_) (by rfl) rfl ?_ ?_;rotate_left
      ·go_simp;rfl
      refine hK.out _ _ ?_;clear hK K;refine done_ (by kernel_rfl) ?_;go_wp2_with fail
      go_roundg (row.length - (j+1))
      case measure=>omega
      case rel=>
       refine⟨j+1,cs.set i _,part++ [x],by omega,by omega,by simp;omega,by go_num,⟨RBd.out.put hlt Hvc.out HG5.out hown HN5.out⟩,⟨(HBd.out.grown HG5.out HBd.out.size (fun q hq=>by have:=hown q hq;have:=RBd.out.hb0;have:=RBd.out.hb;omega)).setCell RBd.out.toA.lt _⟩,⟨HSc.out.kept ?_⟩,HRc⟩;refine(Below.heap_setCell _ _ _ wo.heap.size (fun e=>?_)).trans (HG5.out.block wo.heap.size HSc.out.lt (fun e=>?_))
       ·have h1:=RBd.out.hg;have h2:=RBd.out.hb0;have e:wo.heap.size=g:=e;omega
       ·have:=hown _ e.symm
        omega
    ·have hjtz: ¬ (j:Int)< (row.length:Int):=by omega
     have:j=row.length:=by omega
     subst this;have hR:=HRow.out;rw[List.drop_length,spreadRow]at hR;have hpr:part=rr:=Option.some.inj hR;subst hpr;clear hR HRow;obtain⟨D,hown,hmap,hat⟩:=HS.out;have HAt:=Aside0.mk hat;have HOwn:=Aside0.mk hown;clear hown hat;go_wp2_with (at_range;refine wpList_range_own _ rfl _ 78 rfl 3 4 (Maps.int_keyed Tryz.underlying3) Tryz.underlying78 (plainElem Tryz.prog 4) wo.heap.size (fr.length+row.length) D rfl HOwn.out ?_;intro w0 hrg0 hg0 hs0;have HRg:=Aside0.mk hrg0;have HG0:=Aside0.mk hg0;clear hrg0 hg0 hs0)
     go_loopg [] (Maps.size D) (fun gg w'=> ∃ (left:Lit→Bool) (cnt:Nat),cnt≤gg∧Aside0 (w'.ranges Tryz.prog 3 (plainElem Tryz.prog 4) wo.heap.size wa.heap.size (fr.length+row.length) D left cnt)∧Aside0 (∀x,leftK fr row l1 row.length x=true→left (.int .i64 x)=true)∧Aside0 (Below wa.heap.size wa w'))
     case atStart=>
      refine⟨_,_,Nat.le_refl _,HRg,⟨fun x hx=>?_⟩,⟨(Below.refl _ _).grown HG0.out (Nat.le_refl _) (fun b hb=>by cases hb)⟩⟩;cases hh:Maps.has D (.int .i64 x)with
      |true=>rfl
      |false=>
       have h1:=(Maps.atKey_of_not_has hh (.lit (.bool false))).symm.trans (HAt.out x);rw[hx]at h1;cases h1
     case round=>
     clear HRg HG0;obtain⟨left,cnt,hcnt,HRg,HLe,HBe⟩:=hrel;go_wp2_with (at_next;refine wpList_next_ranges _ rfl _ rfl 3 (Maps.int_keyed Tryz.underlying3) (plainElem Tryz.prog 4) (Value.int .i64) Value.bool (fun key kl hk=>by obtain⟨x,e,_⟩:=Maps.keyOf_int_inv Tryz.underlying3 hk;exact⟨x,e⟩) (fun v y hv=>bool_elem Tryz.underlying4 hv) wo.heap.size wa.heap.size (fr.length+row.length) D left cnt rfl HRg.out (fun hc0 hl0=>?_) (fun x c kl y w1 cnt1 hkey hlx hv hat1 hrg1 hlt1 hg1 hs1 hen=>?_))
     ·have hlb0:leftB fr row l1=false:=leftB_none (fun x=>by
       cases hx:leftK fr row l1 row.length x with
       |false=>rfl
       |true=>
        have h1:=HLe.out x hx;rw[hl0]at h1;cases h1)
      have hP:=HP.out;rw[if_neg (by rw[hlb0];decide)]at hP;have HP':=Aside0.mk hP;clear hP hlb0;go_roundg (l0.length - (i+1))
      case measure=>omega
      case rel=>
       exact⟨i+1,_,cs,_,by omega,by omega,by go_num,⟨((RB.out.below HBe.out).toA).next hlt⟩,⟨fun h=>RB.out.nils (i+1) (by omega) h⟩,⟨HB.out.trans (HBe.out.mono HB.out.size)⟩,HP'⟩
     ·rename_i hct
      obtain⟨x',ex,rfl,_⟩:=Maps.keyOf_int_inv Tryz.underlying3 hkey;cases ex;have hy:=bool_elem_val Tryz.underlying4 hv;have h2:=(HAt.out x).symm.trans ((hat1 _).trans hy);rw[hct]at h2;have hK:leftK fr row l1 row.length x=true:=by simpa using h2
      have hP:=HP.out;rw[if_pos (leftB_some hK)]at hP;simp only[Option.some.injEq,Prod.mk.injEq]at hP;obtain⟨rfl,rfl⟩:=hP;go_ret2;exact⟨_,rfl,Kd.N_nil _ _ _ _ _,(HB.out.trans (HBe.out.mono HB.out.size)).grown hg1 (Nat.le_trans HB.out.size HBe.out.size) (fun b hb=>by cases hb;exact HB.out.size)⟩
     ·rename_i hct
      obtain⟨x',ex,rfl,_⟩:=Maps.keyOf_int_inv Tryz.underlying3 hkey;cases ex;have hy:=bool_elem_val Tryz.underlying4 hv;have h2:=(HAt.out x).symm.trans ((hat1 _).trans hy);have hcf:c=false:=by simpa using hct
      rw[hcf]at h2;have hK:leftK fr row l1 row.length x=false:=by simpa using h2
      go_roundg cnt1
      case measure=>omega
      case rel=>
       refine⟨_,cnt1,Nat.le_refl _,⟨hrg1⟩,⟨fun y hy'=>?_⟩,⟨HBe.out.grown hg1 HBe.out.size (fun b hb=>by cases hb;exact Nat.le_refl _)⟩⟩;have hne:y≠x:=fun e=>by rw[e,hK]at hy';cases hy'
       simp only[HLe.out y hy',Bool.true_and];simp[Lit.sameKey,hne]
  ·have hltz: ¬ (i:Int)< (l0.length:Int):=by omega
   have:i=l0.length:=by omega
   subst this;have hP:=HP.out;rw[List.drop_length,spreadRows]at hP;simp only[Option.some.injEq,Prod.mk.injEq]at hP;obtain⟨rfl,rfl⟩:=hP;go_wp2_with fail
   go_ret2;exact⟨_,rfl,HR.out.done,HB.out⟩
end
end Go.Proofs.YtjjbondlcjnaiaaGreat.PSparseOwn
