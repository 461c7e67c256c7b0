-- written by a program of this session, after the kit's print
import Derived.Test.YtjjbondlcjnaiaaGreatPSparseSeedsx9
namespace Go.Proofs.YtjjbondlcjnaiaaGreat.PSparseSeeds
open Go.RowKit Go.Proofs.YtjjbondlcjnaiaaGreatW.PrintWords Go.Proofs.YtjjbondlcjnaiaaGreatW.PrintLast Go.Proofs.YtjjbondlcjnaiaaGreatW.PrintMore
set_option maxHeartbeats 8000000
set_option maxRecDepth 100000
attribute [local go_sem] max2_int min2_int max_two min_two max_three min_three max_four min_four
set_option linter.unusedVariables false
set_option linter.unusedSimpArgs false
section
open Go.Maps
def mapK:Kd (Option Nat):=Kd.scalar Value.map (fun _=>rfl)
def SameBut(w w1:World):Prop:= ∀ (k:Nat) (o:Obj),w.heap[k]? =some o→(∀c,o≠.cells c 3 (0,0))→w1.heap[k]? =some o
theorem SameBut.of_grown{w w1:World}{row:Option Nat}(hg:w.grownBy w1 row)(hr: ∀k,row=some k→ ∃c,w.heap[k]? =some (.cells c 3 (0,0))):SameBut w w1:=by
 intro k o ho hne;have hlt:k< w.heap.size:=(Array.getElem?_eq_some_iff.1 ho).1;rw[hg.block k hlt (fun e=>?_)]
 ·exact ho
 ·obtain⟨c,hc⟩:=hr k e.symm;rw[hc]at ho;exact hne c (Option.some.inj ho).symm
structure Used (w:World) (base g cap:Nat) (bs:List (Option Nat)) (cnt:Nat) (F:Nat→Int→Bool):Prop where
 row:w.ownsRow base 78 1 (.slice (some ⟨g,0,none⟩) bs.length cap) bs.length (encs Value.map bs)
 at_: ∀ (r b:Nat),bs[r]? =some (some b)→base≤b∧IntSet w b cnt (F r)
 one: ∀ (r r' b:Nat),bs[r]? =some (some b)→bs[r']? =some (some b)→r=r'
section
variable {w w1:World} {base g cap cnt:Nat} {bs:List (Option Nat)} {F G:Nat→Int→Bool}
theorem Used.congr(h:Used w base g cap bs cnt F)(hF: ∀r x,r< bs.length→F r x=G r x):Used w base g cap bs cnt G:=
 ⟨h.row,fun r b hr=>⟨(h.at_ r b hr).1,(h.at_ r b hr).2.congr (fun x=>hF r x (List.getElem?_eq_some_iff.1 hr).1)⟩,h.one⟩
theorem Used.mono(h:Used w base g cap bs cnt F){m:Nat}(hm:cnt≤m):Used w base g cap bs m F:=
 ⟨h.row,fun r b hr=>⟨(h.at_ r b hr).1,(h.at_ r b hr).2.mono hm⟩,h.one⟩
theorem Used.blk(h:Used w base g cap bs cnt F): ∃c,w.heap[g]? =some (.cells c 78 (0,0)):=own_typed h.row g (by simp[Value.ownBlock])
theorem Used.set_blk{b n:Nat}{f:Int→Bool}(h:IntSet w b n f): ∃es cl,w.heap[b]? =some (.map es cl):=by
 obtain⟨D,⟨es,cl,hb,_⟩,_⟩:=h;exact⟨es,cl,hb⟩
theorem Used.same(h:Used w base g cap bs cnt F)(hs:SameBut w w1):Used w1 base g cap bs cnt F:=by
 refine⟨own_move h.row (fun k hk=>?_),fun r b hr=>⟨(h.at_ r b hr).1,(h.at_ r b hr).2.kept ?_⟩,h.one⟩
 ·have:g=k:=by simpa [Value.ownBlock]using hk
  subst this;obtain⟨c,hc⟩:=h.blk;rw[hc];exact hs _ _ hc (fun c' e=>by cases e)
 ·obtain⟨es,cl,hb⟩:=Used.set_blk (h.at_ r b hr).2;rw[hb];exact hs _ _ hb (fun c' e=>by cases e)
theorem Used.cell(h:Used w base g cap bs cnt F){r:Nat}{b:Nat}(hr:bs[r]? =some (some b)):w.cell? ⟨g,r,none⟩=some (.map (some b)):=by
 have hlt:=(List.getElem?_eq_some_iff.1 hr).1
 have:=(own_at_of (d:=none) h.row (r:Int) (by omega) (by omega)).1
 rw[Int.toNat_natCast]at this;rw[this];have e:rdOf none bs (r:Int)=some b:=by simp[rdOf,List.getD_eq_getElem?_getD,hr]
 rw[e]
theorem Used.put(h:Used w base g cap bs cnt F){r b:Nat}(hr:bs[r]? =some (some b))(x:Int){w1:World}(hs:IntSet w1 b (cnt+1) (fun y=>if y=x then true else F r y))(hg:w.grownBy w1 (some b)):
  Used w1 base g cap bs (cnt+1) (fun r' y=>if r'=r∧y=x then true else F r' y):=by
 have hb:=Used.set_blk (h.at_ r b hr).2;refine⟨own_move h.row (fun k hk=>?_),fun r' b' hr'=>⟨(h.at_ r' b' hr').1,?_⟩,h.one⟩
 ·have e:g=k:=by simpa [Value.ownBlock]using hk
  subst e;obtain⟨c,hc⟩:=h.blk;refine hg.block g (Array.getElem?_eq_some_iff.1 hc).1 (fun e=>?_);obtain⟨es,cl,hb⟩:=hb;cases e;rw[hb]at hc;cases hc
 ·by_cases e:r'=r
  ·subst e;rw[hr]at hr';cases hr';exact hs.congr (fun y=>by by_cases ey:y=x<;>simp[ey])
  ·have hne:b'≠b:=fun eb=>e (h.one r' r b (eb▸hr') hr)
   have h1:=(h.at_ r' b' hr').2;refine((h1.kept (hg.block b' h1.lt (fun eb=>hne (Option.some.inj eb)))).mono (Nat.le_succ _)).congr (fun y=>?_);simp[e]
end
theorem SameBut.alloc(w:World)(o:Obj):SameBut w (w.alloc o):=fun k o' ho _=>by
 rw[←ho]
 exact Below.heap_alloc w o k (Array.getElem?_eq_some_iff.1 ho).1
theorem SameBut.trans{a b c:World}(h:SameBut a b)(h':SameBut b c):SameBut a c:=fun k o ho hne=>h' k o (h k o ho hne) hne
theorem Used.make{w:World}{base g cap:Nat}{bs:List (Option Nat)}(h:Used w base g cap bs 0 (fun _ _=>false))(hb:base≤w.heap.size)(r:Nat):
  Used ((w.alloc (.map #[] 0)).setCell ⟨g,r,none⟩ (.map (some w.heap.size))) base g cap (bs.set r (some w.heap.size)) 0 (fun _ _=>false):=by
 have h1:=h.same (SameBut.alloc w (.map #[] 0));obtain⟨hrow,hg⟩:=own_store_of h1.row (r:Int) (some w.heap.size);rw[Int.toNat_natCast]at hrow hg;have hgb:=h.blk;have key: ∀b n f,IntSet (w.alloc (.map #[] 0)) b n f→IntSet ((w.alloc (.map #[] 0)).setCell ⟨g,r,none⟩ (.map (some w.heap.size))) b n f:=by
  intro b n f hs;refine hs.kept (hg.block b hs.lt (fun e=>?_));obtain⟨es,cl,hbm⟩:=Used.set_blk hs;obtain⟨c,hc⟩:=h1.blk;cases e;rw[hbm]at hc;cases hc
 refine⟨by rw[List.length_set];exact hrow,fun r' b hr'=>?_,fun r1 r2 b e1 e2=>?_⟩
 ·by_cases e:r'=r
  ·subst e;rw[List.getElem?_set_self']at hr';cases hx:bs[r']? with
   |none=>rw[hx]at hr';cases hr'
   |some y=>
    rw[hx]at hr';cases hr';exact⟨hb,key _ _ _ (IntSet.made w)⟩
  ·rw[List.getElem?_set_ne (Ne.symm e)]at hr';exact⟨(h1.at_ r' b hr').1,key _ _ _ (h1.at_ r' b hr').2⟩
 ·have old: ∀q b,bs[q]? =some (some b)→b< w.heap.size:=fun q b hq=>(h.at_ q b hq).2.lt
  have get: ∀q b,(bs.set r (some w.heap.size))[q]? =some (some b)→(q=r∧b=w.heap.size)∨(q≠r∧bs[q]? =some (some b)):=by
   intro q b hq;by_cases e:q=r
   ·subst e;rw[List.getElem?_set_self']at hq;cases hx:bs[q]? with
    |none=>rw[hx]at hq;cases hq
    |some y=>rw[hx]at hq;cases hq;exact .inl ⟨rfl,rfl⟩
   ·rw[List.getElem?_set_ne (Ne.symm e)]at hq;exact .inr ⟨e,hq⟩
  rcases get r1 b e1 with ⟨q1,p1⟩ | ⟨n1,g1⟩<;>rcases get r2 b e2 with ⟨q2,p2⟩ | ⟨n2,g2⟩
  ·rw[q1,q2]
  ·exact absurd (old r2 _ g2) (by omega)
  ·exact absurd (old r1 _ g1) (by omega)
  ·exact h.one r1 r2 b g1 g2
theorem ints_kept{w w1:World}{base:Nat}{v:Value}{xs:List Int}(h:Kd.R (Kd.int .i64) 3 w base (fun _=>True) v xs){b:Nat}(hb: ∃es cl,w.heap[b]? =some (.map es cl))(hg:w.grownBy w1 (some b)):Kd.R (Kd.int .i64) 3 w1 base (fun _=>True) v xs:=by
 have ho:=Kd.own_of_R h;refine Kd.R_of_own (own_move ho (fun k hk=>?_)) h.1;obtain⟨c,hc⟩:=own_typed ho k hk;refine hg.block k (Array.getElem?_eq_some_iff.1 hc).1 (fun e=>?_);obtain⟨es,cl,hb⟩:=hb;cases e;rw[hb]at hc;cases hc
def takenF(p:List (List Bool))(F:Nat→Int→Bool)(k:Nat)(c:Int):Bool:=(List.range p.length).any fun r=>(p.getD r []).getD k false && F r c
theorem sparse_taken.calls(A0:Option Addr)(c0:Nat)(l0:List (List Bool))(base g cap cnt:Nat)(bs:List (Option Nat))(F:Nat→Int→Bool)(k:Nat)(c:Int)(w:World)(hr0:Kd.C (Kd.slice 4 Kd.bool) w A0 l0.length l0)
  (hU:Used w base g cap bs cnt F) (hbl:bs.length=l0.length) (hall: ∀r,r< bs.length→ ∃b,bs[r]? =some (some b)) (hk: ∀row,row∈l0→k< row.length) (hwf:(Lit.int .i64 c).wf=true):
  Calls Tryz.prog 83 #[.slice A0 l0.length c0,.slice (some ⟨g,0,none⟩) bs.length cap,.int .i64 k,.int .i64 c] w fun e w'=>e= .returned (.bool (takenF l0 F k c))∧w'=w:=by
 have HR0:=Aside0.mk hr0;have hn0:l0.length≤9223372036854775807:=hr0.2.1;have HU:=Aside0.mk hU;have Hbl:=Aside0.mk hbl;have Hall:=Aside0.mk hall;have Hk:=Aside0.mk hk;have Hwf:=Aside0.mk hwf;have hbl1:bs.length≤l0.length:=by omega
 have hbl2:l0.length≤bs.length:=by omega
 clear hr0 hU hbl hall hk hwf;go_enter Tryz.func83,Tryz.ntmps83
 go_wp2
 go_loopg [13] l0.length (fun gg s13 wr=> ∃i:Nat,i≤l0.length∧l0.length - i≤gg∧s13= .int .i64 i∧wr=w∧Aside0 (∀j,j< i→((l0.getD j []).getD k false && F j c)=false))
 case atStart=>exact⟨0,Nat.zero_le _,by omega,rfl,rfl,⟨fun j hj=>absurd hj (by omega)⟩⟩
 case round=>
  obtain⟨i,hi,hg,rfl,rfl,HA⟩:=hrel;by_cases hlt:i< l0.length
  ·have hltz:(i:Int)< (l0.length:Int):=by omega
   have hltb:(i:Int)< (bs.length:Int):=by omega
   obtain⟨ad,c2,e0,hcl,hK,hc0'⟩:=Kd.C_get HR0.out ([] :List Bool) (i:Int) (by omega) (by omega);subst e0;obtain⟨A2,c2,rfl,hl2,hr2⟩:=hK;have hx:l0.getD (Int.toNat i) [] =l0[i] :=by simp[hlt]
   have hx':l0.getD i [] =l0[i] :=by simp[hlt]
   rw[hx]at hc0' hl2 hr2;have hcell:wr.cell? (ad.add i)=some (.slice A2 l0[i].length c2):=by
    have:=hc0' 0 _ rfl
    simpa [Kd.slice]using this
   have hkr:k< l0[i].length:=Hk.out _ (List.getElem_mem _);have hkrz:(k:Int)< (l0[i].length:Int):=by omega
   obtain⟨row,hrow⟩: ∃row,row=l0[i] :=⟨_,rfl⟩;rw[←hrow]at hcell hkr hkrz hr2 hx';obtain⟨ad2,e2,hx2⟩:=Kd.at_bool hr2 (k:Int) (by omega) (by omega);subst e2;simp only[rdOf,Int.toNat_natCast]at hx2;obtain⟨b,hb⟩:=Hall.out i (by omega);have hcb:=HU.out.cell hb;have hlook:=(HU.out.at_ i b hb).2.look c Hwf.out;obtain⟨bk,hbk⟩: ∃bk,bk=row.getD k false:=⟨_,rfl⟩;rw[←hbk]at hx2;obtain⟨f,hf⟩: ∃f,f=F i c:=⟨_,rfl⟩;rw[←hf]at hlook;have hfi:((l0.getD i []).getD k false && F i c)=(bk && f):=by rw[hx',hbk,hf]
   have Hfi:=Aside0.mk hfi;clear hc0' hl2 hr2 hx hcl hrow hx' hb hfi hbk hf;cases bk with
   |false=>
    clear hlook hcb;go_wp2_with fail
    go_roundg (l0.length - (i+1))
    case measure=>omega
    case rel=>
     refine⟨i+1,by omega,by omega,by go_num,rfl,⟨fun j hj=>?_⟩⟩;by_cases e:j=i
     ·subst e;rw[Hfi.out];rfl
     ·exact HA.out j (by omega)
   |true=>
    cases f with
    |true=>
     go_wp2_with fail
     go_ret;have hrr:takenF l0 F k c=true:=List.any_eq_true.2 ⟨i,List.mem_range.2 hlt,by rw[Hfi.out];rfl⟩;exact⟨by rw[hrr];rfl,rfl⟩
    |false=>
     go_wp2_with fail
     go_roundg (l0.length - (i+1))
     case measure=>omega
     case rel=>
      refine⟨i+1,by omega,by omega,by go_num,rfl,⟨fun j hj=>?_⟩⟩;by_cases e:j=i
      ·subst e;rw[Hfi.out];rfl
      ·exact HA.out j (by omega)
  ·have hltz: ¬ (i:Int)< (l0.length:Int):=by omega
   have:i=l0.length:=by omega
   subst this;go_wp2_with fail
   go_ret;have hrr:takenF l0 F k c=false:=List.any_eq_false.2 (fun j hj=>by rw[HA.out j (List.mem_range.1 hj)];decide);exact⟨by rw[hrr];rfl,rfl⟩
def colPick(p:List (List Bool))(out:List Int):Nat→Int→Option Int
 |0,_=>none
 |n+1,c=>if takenF p (fun r=>seenAt (p.getD r []) out out.length) out.length c=true then colPick p out n (c+1)else some c
def colGo(p:List (List Bool)):Nat→List Int→Option (List Int)
 |0,out=>some out
 |n+1,out=>(colPick p out (out.length+1) 0).bind fun c=>colGo p n (out++ [c])
def sparse_colours.f(l0:List (List Bool))(a1:Int):Option (List Int):=if(decide (l0.length≤1000000) && decide (a1≤1000000) && l0.all (fun row=>decide (a1≤row.length)))=true then colGo l0 a1.toNat []else none
theorem seenAt_app(row:List Bool)(out:List Int)(c x:Int):seenAt row (out++ [c]) (out.length+1) x=(seenAt row out out.length x|| (row.getD out.length false && (c==x))):=by
 rw[seenAt_succ];have e:(out++ [c]).getD out.length 0=c:=by simp
 rw[e]
 congr 1
 unfold seenAt;have hk: ∀k,k≤out.length→((List.range k).any fun j=>row.getD j false && ((out++ [c]).getD j 0==x))=((List.range k).any fun j=>row.getD j false && (out.getD j 0==x)):=by
  intro k
  induction k with
  |zero=>intro _;rfl
  |succ k ih=>
   intro hk;rw[List.range_succ,List.any_append,List.any_append,ih (by omega)];simp[List.getElem?_append_left (show k< out.length by omega)]
 exact hk _ (Nat.le_refl _)
theorem sparse_colours.info:(Tryz.prog.info? 78).map (fun i=>(i.zero,i.size,i.bytes))=some (some (.map none),1,8):=by kernel_rfl
theorem sparse_colours.calls(A0:Option Addr)(c0:Nat)(l0:List (List Bool))(a1:Int)(r:List Int)(w:World)(hr0:Kd.C (Kd.slice 4 Kd.bool) w A0 l0.length l0)(hc0:l0.length≤c0)(h:sparse_colours.f l0 a1=some r):
  Calls Tryz.prog 57 #[.slice A0 l0.length c0,.int .i64 a1] w fun e w'=> ∃v0_:Value,e= .returned (v0_)∧Kd.R (Kd.int .i64) 3 w' w.heap.size (fun _=>True) v0_ r∧Below w.heap.size w w':=by
 have HR0:=Aside0.mk hr0;clear hr0 hc0;unfold sparse_colours.f at h;split at h
 case isFalse=>cases h
 case isTrue hok=>
 simp only[Bool.and_eq_true,decide_eq_true_eq]at hok;obtain⟨⟨hp1,ha1⟩,hrows⟩:=hok;have HL:=Aside0.mk (List.all_eq_true.1 hrows);have H0:=Aside0.mk h;clear hrows h;have hmm:= @run_makeMap Tryz.prog;go_enter Tryz.func57,Tryz.ntmps57
 go_wp2_with (refine gD 14 ?_;refine Kd.R_make mapK _ 78 rfl (N:=14) rfl 117 _ _ rfl (l0.length:Int) rfl rfl Tryz.underlying117 (.map none) 8 sparse_colours.info rfl (by decide) (by omega) none (ok:=fun _=>True) (okp:=fun _=>True) rfl (fun _ hk=>hk) trivial (by omega) (by omega) (Below.refl _ _) (Nat.le_refl _) ?_;intro v1 w1 ho hb _ hnew;have ho2:=Kd.own_of_R ho;rw[List.length_replicate,Int.toNat_natCast]at ho2;obtain⟨g,cap,rfl⟩:=slice_form ho2 (hnew.imp fun b h=>h.1);have HO:=Aside0.mk ho2;have HB:=Aside0.mk hb;clear ho ho2 hb hnew)
 go_loopg [17] l0.length (fun gg s17 wr=> ∃ (i:Nat) (bs:List (Option Nat)),i≤l0.length∧l0.length - i≤gg∧s17= .int .i64 i∧Aside0 (Below w.heap.size w wr)∧Aside0 (Used wr w.heap.size g cap bs 0 (fun _ _=>false))∧Aside0 (bs.length=l0.length)∧Aside0 (∀q,q< i→ ∃b,bs[q]? =some (some b))∧Aside0 (∀q,i≤q→q< l0.length→bs[q]? =some none))
 case atStart=>
  refine⟨0,List.replicate l0.length none,Nat.zero_le _,by omega,rfl,HB,⟨⟨by simpa using HO.out,fun q b hq=>?_,fun q q' b hq=>?_⟩⟩,⟨by simp⟩,⟨fun q hq=>absurd hq (by omega)⟩,⟨fun q _ hq=>by simp[hq]⟩⟩;all_goals
   rw[List.getElem?_replicate]at hq;split at hq<;>cases hq
 case round=>
  obtain⟨i,bs,hi,hg,rfl,HB1,HU,Hbl,Hmade,Hnone⟩:=hrel;by_cases hlt:i< l0.length
  ·have hltz:(i:Int)< (l0.length:Int):=by omega
   have hbl:bs.length=l0.length:=Hbl.out;have hU1:=HU.out.same (SameBut.alloc wr (.map #[] 0));have hcf:=own_at_of (d:=none) hU1.row (i:Int) (by omega) (by omega);have e1:rdOf none bs (i:Int)=none:=by simp[rdOf,List.getD_eq_getElem?_getD,Hnone.out i (Nat.le_refl _) hlt]
   rw[e1,Int.toNat_natCast]at hcf;obtain⟨hc1,hf1⟩:=hcf;clear hU1 e1 hbl;go_wp2_with fail
   go_roundg (l0.length - (i+1))
   case measure=>omega
   case rel=>
    refine⟨i+1,bs.set i (some wr.heap.size),by omega,by omega,by go_num,⟨?_⟩,⟨HU.out.make HB1.out.size i⟩,⟨by rw[List.length_set];exact Hbl.out⟩,⟨fun q hq=>?_⟩,⟨fun q hq hq2=>?_⟩⟩
    ·obtain⟨c,hcb⟩:=HU.out.blk;exact(HB1.out.alloc HB1.out.size _).setCell (HU.out.row.lt g (by simp[Value.ownBlock])).1 _
    ·by_cases e:q=i
     ·subst e;exact⟨wr.heap.size,by rw[List.getElem?_set_self (by rw[Hbl.out];exact hlt)]⟩
     ·rw[List.getElem?_set_ne (Ne.symm e)];exact Hmade.out q (by omega)
    ·rw[List.getElem?_set_ne (by omega)];exact Hnone.out q (by omega) hq2
  ·have hltz: ¬ (i:Int)< (l0.length:Int):=by omega
   have:i=l0.length:=by omega
   subst this;have HU1:Aside0 (Used wr w.heap.size g cap bs 0 (fun q=>seenAt (l0.getD q []) [] 0)):=⟨HU.out.congr (fun q x _=>rfl)⟩;clear hmm HU Hnone HO HB;go_wp2_with fail
   go_loopg [5,26] a1.toNat (fun gg s5 s26 wr=> ∃ (k cnt:Nat) (out:List Int),k≤a1.toNat∧a1.toNat - k≤gg∧cnt≤k * 1000000∧s26= .int .i64 k∧Aside0 (Kd.R (Kd.int .i64) 3 wr w.heap.size (fun _=>True) s5 out)∧Aside0 (Below w.heap.size w wr)∧Aside0 (Used wr w.heap.size g cap bs cnt (fun q=>seenAt (l0.getD q []) out k))∧Aside0 (out.length=k)∧Aside0 (colGo l0 (a1.toNat - k) out=some r))
   case atStart=>exact⟨0,0,[],Nat.zero_le _,by omega,by omega,rfl,⟨Kd.R_nil _ _ _ _ _⟩,HB1,HU1,⟨rfl⟩,H0⟩
   case round=>
    clear H0 HU1 HB1;obtain⟨k,cnt,out,hk,hgk,hcnt,rfl,HO,HB,HU,Hol,HG⟩:=hrel;by_cases hkt:k< a1.toNat
    ·have hktz:(k:Int)< a1:=by omega
     have hrk: ∀row,row∈l0→k< row.length:=fun row hrow=>by
      have:=of_decide_eq_true (HL.out row hrow)
      omega
     have Hrk:=Aside0.mk hrk;clear hrk;obtain⟨n,hn⟩: ∃n,a1.toNat - k=n+1:=⟨a1.toNat - k - 1,by omega⟩;have hG:=HG.out;rw[hn,colGo,Hol.out]at hG;have HP:=Aside0.mk hG;have Hn:=Aside0.mk hn;clear hG HG hn;obtain⟨wo,hwo⟩: ∃wo:World,wo=wr:=⟨_,rfl⟩;subst hwo;go_wp2_with fail
     go_loopg [9] (k+1) (fun gg s9 wr=> ∃ (c:Int) (m:Nat),wr=wo∧m≤gg∧0≤c∧c+m=k+1∧s9= .int .i64 c∧Aside0 ((colPick l0 out m c).bind (fun c=>colGo l0 n (out++ [c]))=some r))
     case atStart=>exact⟨0,k+1,rfl,Nat.le_refl _,by omega,by omega,rfl,HP⟩
     case round=>
      clear HP;obtain⟨c,m,rfl,hm,hc0,hcm,rfl,HP⟩:=hrel;have hwf:(Lit.int .i64 c).wf=true:=WalkArith.wf_i64 (by omega);have hT:=sparse_taken.calls A0 c0 l0 w.heap.size g cap cnt bs _ k c wr (Kd.C_below HR0.out HB.out) HU.out Hbl.out (fun q hq=>Hmade.out q (by rw[←Hbl.out];exact hq)) Hrk.out hwf;rw[Hbl.out]at hT;have HT:=Aside0.mk hT;have Hwf:=Aside0.mk hwf;clear hT hwf;cases m with
      |zero=>exact absurd HP.out (by simp[colPick])
      |succ m=>
       have hP:=HP.out;rw[colPick,Hol.out]at hP;obtain⟨tk,htk⟩: ∃tk,tk=takenF l0 (fun q=>seenAt (l0.getD q []) out k) k c:=⟨_,rfl⟩;rw[←htk]at hP HT;have HP:=Aside0.mk hP;clear hP htk;cases tk with
       |true=>
        have hP:=HP.out;rw[if_pos rfl]at hP;have HP:=Aside0.mk hP;clear hP;go_wp2_with fail
        refine HT.out.mono ?_;rintro e w' ⟨rfl,rfl⟩;go_wp2_with fail
        go_roundg m
        case measure=>omega
        case rel=>exact⟨c+1,m,rfl,Nat.le_refl _,by omega,by omega,by go_num,HP⟩
       |false=>
        have hP:=HP.out;rw[if_neg (by decide),Option.bind_some]at hP;have HP:=Aside0.mk hP;clear hP;go_wp2_with fail
        refine HT.out.mono ?_;rintro e w' ⟨rfl,rfl⟩;go_wp2_with fail
        clear HT;go_loopg [38] l0.length (fun gg s38 wr=> ∃ (i cn:Nat),i≤l0.length∧l0.length - i≤gg∧cn≤cnt+i∧s38= .int .i64 i∧Aside0 (Kd.R (Kd.int .i64) 3 wr w.heap.size (fun _=>True) u5 out)∧Aside0 (Below w.heap.size w wr)∧Aside0 (Used wr w.heap.size g cap bs cn (fun q x=>if q< i∧(l0.getD q []).getD k false=true∧x=c then true else seenAt (l0.getD q []) out k x)))
        case atStart=>exact⟨0,cnt,Nat.zero_le _,by omega,by omega,rfl,HO,HB,⟨HU.out.congr (fun q x _=>by rw[if_neg (by omega)])⟩⟩
        case round=>
         clear HO HB HU;obtain⟨i,cn,hi,hgi,hcn,rfl,HO,HB,HU⟩:=hrel;by_cases hlt:i< l0.length
         ·have hltz:(i:Int)< (l0.length:Int):=by omega
          obtain⟨ad,c2,e0,hcl,hK,hc0'⟩:=Kd.C_get (Kd.C_below HR0.out HB.out) ([] :List Bool) (i:Int) (by omega) (by omega);subst e0;obtain⟨A2,c2,rfl,hl2,hr2⟩:=hK;have hx:l0.getD (Int.toNat i) [] =l0[i] :=by simp[hlt]
          have hx':l0.getD i [] =l0[i] :=by simp[hlt]
          rw[hx]at hc0' hl2 hr2;have hcell:wr.cell? (ad.add i)=some (.slice A2 l0[i].length c2):=by
           have:=hc0' 0 _ rfl
           simpa [Kd.slice]using this
          have hkr:k< l0[i].length:=Hrk.out _ (List.getElem_mem _);have hkrz:(k:Int)< (l0[i].length:Int):=by omega
          obtain⟨row,hrow⟩: ∃row,row=l0[i] :=⟨_,rfl⟩;rw[←hrow]at hcell hkr hkrz hr2 hx';obtain⟨ad2,e2,hx2⟩:=Kd.at_bool hr2 (k:Int) (by omega) (by omega);subst e2;simp only[rdOf,Int.toNat_natCast]at hx2;have hbl:bs.length=l0.length:=Hbl.out;obtain⟨b,hb⟩:=Hmade.out i (by omega);have hcb:=HU.out.cell hb;have Hb:=Aside0.mk hb;obtain⟨bk,hbk⟩: ∃bk,bk=row.getD k false:=⟨_,rfl⟩;rw[←hbk]at hx2;have Hbk:Aside0 ((l0.getD i []).getD k false=bk):=⟨by rw[hx',hbk]⟩;clear hc0' hl2 hr2 hx hcl hrow hx' hb hbk hbl;cases bk with
          |false=>
           clear hcb;go_wp2_with fail
           go_roundg (l0.length - (i+1))
           case measure=>omega
           case rel=>
            refine⟨i+1,cn,by omega,by omega,by omega,by go_num,HO,HB,⟨HU.out.congr (fun q x _=>?_)⟩⟩;by_cases e:q=i
            ·subst e;rw[if_neg (by omega),if_neg (by rw[Hbk.out];simp)]
            ·by_cases h2:q< i
             ·simp[h2,show q< i+1 by omega]
             ·simp[h2,show¬q< i+1 by omega]
          |true=>
           go_wp2_with (at_mapUpdate;(refine wpList_intset_put _ rfl _ _ _ rfl b cn _ rfl (HU.out.at_ i b Hb.out).2 (by unfold maxLen;omega) c true rfl rfl Hwf.out ?_);intro w1 hs1 hg1;have HS1:=Aside0.mk hs1;have HG1:=Aside0.mk hg1;clear hs1 hg1)
           go_roundg (l0.length - (i+1))
           case measure=>omega
           case rel=>
            refine⟨i+1,cn+1,by omega,by omega,by omega,by go_num,⟨ints_kept HO.out (Used.set_blk (HU.out.at_ i b Hb.out).2) HG1.out⟩,⟨HB.out.grown HG1.out HB.out.size (fun b' hb'=>by cases hb';exact(HU.out.at_ i b Hb.out).1)⟩,⟨(HU.out.put Hb.out c HS1.out HG1.out).congr (fun q x _=>?_)⟩⟩;by_cases e:q=i
            ·subst e;by_cases ex:x=c
             ·rw[if_pos ⟨rfl,ex⟩,if_pos ⟨by omega,Hbk.out,ex⟩]
             ·rw[if_neg (fun h=>ex h.2),if_neg (fun h=>ex h.2.2),if_neg (fun h=>ex h.2.2)]
            ·rw[if_neg (fun h=>e h.1)];by_cases h2:q< i
             ·simp[h2,show q< i+1 by omega]
             ·simp[h2,show¬q< i+1 by omega]
         ·have hltz: ¬ (i:Int)< (l0.length:Int):=by omega
          have:i=l0.length:=by omega
          subst this;have hol:out.length≤1000000:=by have:=Hol.out;omega
          go_wp2_with ((with_reducible refine gate_builtin (b:= .append) (xs:= #[.tmp 53,.tmp 55]) rfl ?_);at_builtin;refine Kd.R_append (Kd.int .i64) (w0:=w) w.heap.size rfl (.tmp 53) (.tmp 55) 23 3 (.int .i64 0) 8 rfl Tryz.underlying23 info3 rfl (by decide) (by omega) u5 out c [.int .i64 c] (fun _=>True) (fun _=>False) rfl rfl ?aP (fun _ hk=>hk.elim) ?aF ?aO ?aB ?aS ?aL ?_;(case aP=>exact rfl);(case aB=>exact HB.out);(case aF=>exact(fun _ _=>trivial));(case aO=>exact HO.out);(case aS=>exact HB.out.size);(case aL=>omega);intro v2 w2 ho2 hb2 hg2 _;have HO2:=Aside0.mk ho2;have HB2:=Aside0.mk hb2;have HG2:=Aside0.mk hg2;clear ho2 hb2 hg2)
          go_roundg (a1.toNat - (k+1))
          case measure=>have:=Hn.out;omega
          case rel=>
           refine⟨k+1,cn,out++ [c],by omega,by omega,by omega,by go_num,HO2,HB2,⟨(HU.out.same (SameBut.of_grown HG2.out (fun q hq=>own_typed (Kd.own_of_R HO.out) q hq))).congr (fun q x hq=>?_)⟩,⟨by rw[List.length_append,Hol.out];rfl⟩,⟨by rw[show a1.toNat - (k+1)=n by have:=Hn.out;omega];exact HP.out⟩⟩;have hbl:bs.length=l0.length:=Hbl.out;have ho:=Hol.out;subst ho;rw[seenAt_app];by_cases ex:x=c
           ·subst ex;cases hrow:(l0.getD q []).getD out.length false<;>simp[hrow,show q< l0.length by omega]
           ·have:(c==x)=false:=beq_eq_false_iff_ne.2 (Ne.symm ex)
            rw[this,if_neg (fun h=>ex h.2.2)];simp
    ·have hktz: ¬ (k:Int)< a1:=by omega
     have:k=a1.toNat:=by omega
     subst this;rw[Nat.sub_self]at HG;have hout:out=r:=Option.some.inj HG.out;subst hout;go_wp2_with fail
     go_ret;exact⟨_,rfl,HO.out,HB.out⟩
end
section
open Go.Maps
theorem infoRat:(Tryz.prog.info? 59).map (fun i=>(i.zero,i.size,i.bytes))=some (some (.agg #[.int .i64 0,.bool false,.slice none 0 0,.slice none 0 0]),4,64):=by kernel_rfl
theorem infoRats:(Tryz.prog.info? 35).map (fun i=>(i.zero,i.size,i.bytes))=some (some (.slice none 0 0),1,24):=by kernel_rfl
structure RowsAt {α:Type} (d:Kd α) (e1 e2:Nat) (w:World) (base g cap m c H0:Nat) (cs:List Value) (done:List (List α)) (part:List α):Prop where
 row:w.ownsRow base e2 1 (.slice (some ⟨g,0,none⟩) m cap) m (encs (fun v:Value=>v) cs)
 hg:g< H0
 hw:H0≤w.heap.size
 hb:base≤H0
 len:cs.length=m
 dlen:done.length=c
 old: ∀ (j:Nat) (x:List α) (u:Value),done[j]? =some x→cs[j]? =some u→Kd.FK (Kd.slice e1 d) w (fun k=>(base≤k∧k< H0)∧k≠g) x [u]
 now:c< m→ ∃vc,cs[c]? =some vc∧Kd.N d e1 w H0 (fun k=>H0≤k) vc part
 nils: ∀j,c< j→j< m→cs[j]? =some (.slice none 0 0)
theorem RowsAt.below{α:Type}{d:Kd α}{e1 e2:Nat}{w w1:World}{base g cap m c H0:Nat}{cs:List Value}{done:List (List α)}{part:List α}(h:RowsAt d e1 e2 w base g cap m c H0 cs done part)(hb:Below w.heap.size w w1):RowsAt d e1 e2 w1 base g cap m c H0 cs done part:=by
 refine⟨own_move h.row (fun k hk=>?_),h.hg,Nat.le_trans h.hw hb.size,h.hb,h.len,h.dlen,fun j x u hx hu=>Kd.FK_below (h.old j x u hx hu) hb,fun hc=>?_,h.nils⟩
 ·exact hb.block k (h.row.lt k hk).2
 ·obtain⟨vc,hv,hN⟩:=h.now hc;exact⟨vc,hv,Kd.N_below hN hb⟩
theorem RowsAt.cell{α:Type}{d:Kd α}{e1 e2:Nat}{w:World}{base g cap m c H0:Nat}{cs:List Value}{done:List (List α)}{part:List α}(h:RowsAt d e1 e2 w base g cap m c H0 cs done part){j:Nat}{u:Value}(hj:cs[j]? =some u):w.cell? ⟨g,j,none⟩=some u∧w.frozen? ⟨g,j,none⟩=false:=by
 have hlt:=(List.getElem?_eq_some_iff.1 hj).1;have h1:=own_at_of (d:=Value.bool false) h.row (j:Int) (by omega) (by have:=h.len;omega);rw[Int.toNat_natCast]at h1;have e:rdOf (Value.bool false) cs (j:Int)=u:=by simp[rdOf,List.getD_eq_getElem?_getD,hj]
 rw[e]at h1;exact h1
theorem RowsAt.put{α:Type}{d:Kd α}{e1 e2:Nat}{w w1:World}{base g cap m c H0:Nat}{cs:List Value}{done:List (List α)}{part part':List α}(h:RowsAt d e1 e2 w base g cap m c H0 cs done part)(hc:c< m){vc v1:Value}(hvc:cs[c]? =some vc)
  (hg:w.grownBy w1 vc.ownBlock) (hvo: ∀k,vc.ownBlock=some k→H0≤k) (hN:Kd.N d e1 w1 H0 (fun k=>H0≤k) v1 part'):
  RowsAt d e1 e2 (w1.setCell ⟨g,c,none⟩ v1) base g cap m c H0 (cs.set c v1) done part':=by
 have hgh:=h.hg;have h1:w1.ownsRow base e2 1 (.slice (some ⟨g,0,none⟩) m cap) m (encs (fun v:Value=>v) cs):=own_move h.row (fun k hk=>by
  have e:g=k:=by simpa [Value.ownBlock]using hk
  subst e;exact hg.block g (h.row.lt g hk).2 (fun e=>by have:=hvo g e.symm;omega))
 obtain⟨h2,h3⟩:=own_store_of h1 (c:Int) v1;rw[Int.toNat_natCast]at h2 h3;refine⟨h2,h.hg,Nat.le_trans (Nat.le_trans h.hw hg.size) h3.size,h.hb,by rw[List.length_set];exact h.len,h.dlen,fun j x u hx hu=>?_,fun _=>⟨v1,by rw[List.getElem?_set_self (by rw[h.len];exact hc)],?_⟩,fun j hj hm=>by rw[List.getElem?_set_ne (by omega)];exact h.nils j hj hm⟩
 ·have hj:j< c:=by have:=(List.getElem?_eq_some_iff.1 hx).1;rw[h.dlen]at this;exact this
  rw[List.getElem?_set_ne (by omega)]at hu;refine Kd.FK_step (Kd.FK_step (h.old j x u hx hu) (fun k hk hlt=>hg.block k hlt (fun e=>?_))) (fun k hk hlt=>Below.heap_setCell _ _ _ k hk.2)
  have:=hvo k e.symm
  omega
 ·exact Kd.N_step hN (fun k hk hlt=>Below.heap_setCell _ _ _ k (fun e=>by have hk:H0≤k:=hk;have e:k=g:=e;omega))
theorem RowsAt.next{α:Type}{d:Kd α}{e1 e2:Nat}{w:World}{base g cap m c H0:Nat}{cs:List Value}{done:List (List α)}{part:List α}(h:RowsAt d e1 e2 w base g cap m c H0 cs done part)(hc:c< m):
  RowsAt d e1 e2 w base g cap m (c+1) w.heap.size cs (done++ [part]) [] :=by
 have hgh:=h.hg;have hwh:=h.hw;have hbh:=h.hb;obtain⟨vc,hvc,hN⟩:=h.now hc;refine⟨h.row,Nat.lt_of_lt_of_le h.hg h.hw,Nat.le_refl _,Nat.le_trans h.hb h.hw,h.len,by rw[List.length_append,h.dlen];rfl,fun j x u hx hu=>?_,fun hc1=>⟨_,h.nils (c+1) (by omega) hc1,Kd.N_nil _ _ _ _ _⟩,fun j hj hm=>h.nils j (by omega) hm⟩;have hj:j< c+1:=by have:=(List.getElem?_eq_some_iff.1 hx).1;rw[List.length_append,h.dlen]at this;exact this
 by_cases e:j=c
 ·subst e;rw[List.getElem?_append_right (by rw[h.dlen];exact Nat.le_refl _),h.dlen,Nat.sub_self]at hx;have hx':part=x:=by simpa using hx
  subst hx';rw[hvc]at hu;cases hu;obtain⟨A,cp,rfl,hl,hF⟩:=Kd.N_V (base':=0) hN;refine Kd.FK_mono (Kd.FK_bound (W:=w) (ok:=fun k=>H0≤k) (fun W' hW=>⟨A,cp,rfl,hl,hF W' hW⟩)) (fun k hk=>⟨⟨by omega,hk.2⟩,by omega⟩)
 ·rw[List.getElem?_append_left (by rw[h.dlen];omega)]at hx;exact Kd.FK_mono (h.old j x u hx hu) (fun k hk=>⟨⟨hk.1.1,by omega⟩,hk.2⟩)
theorem RowsAt.done{α:Type}{d:Kd α}{e1 e2:Nat}{w:World}{base g cap m H0:Nat}{cs:List Value}{done:List (List α)}{part:List α}(h:RowsAt d e1 e2 w base g cap m m H0 cs done part):
  Kd.N (Kd.slice e1 d) e2 w base (fun k=>base≤k) (.slice (some ⟨g,0,none⟩) m cap) done:=by
 have hlt:=h.row.lt g (by simp[Value.ownBlock]);have hl:=h.len;have hdl:=h.dlen;refine⟨fun k hk=>?_,cs.map (fun u=> [u]),by rw[List.length_map,hl,hdl],⟨fun k hk=>hk.symm,encs (fun v=>v) cs,?_,?_⟩,fun j x c hx hc=>?_⟩
 ·have e:g=k:=by simpa [Value.ownBlock]using hk
  subst e;exact hlt.1
 ·rw[List.length_map,hl];exact h.row
 ·refine⟨by simp[encs,Kd.raw,Kd.slice],fun j p hp=>?_⟩;rw[List.getElem?_map]at hp;obtain⟨u,hu,rfl⟩:=Option.map_eq_some_iff.1 hp;have hju:=(List.getElem?_eq_some_iff.1 hu);obtain⟨hjl,hju⟩:=hju;have he:((encs (fun v:Value=>v) cs).drop (j * (Kd.raw (Kd.slice e1 d).sz).sz)).take (Kd.raw (Kd.slice e1 d).sz).sz= [u] :=by
   have e0:encs (fun v:Value=>v) cs=cs:=by simp[encs]
   rw[e0,show(Kd.raw (Kd.slice e1 d).sz).sz=1 from rfl,Nat.mul_one,List.drop_eq_getElem_cons hjl,List.take_succ_cons,List.take_zero,hju]
  rw[he];obtain⟨x,hx⟩: ∃x,done[j]? =some x:=⟨_,List.getElem?_eq_getElem (by rw[hdl,←hl];exact hjl)⟩;have hk:=Kd.FK_now (h.old j x u hx hu);exact⟨rfl,rfl,Kd.K_one _ hk⟩
 ·rw[List.getElem?_map]at hc;obtain⟨u,hu,rfl⟩:=Option.map_eq_some_iff.1 hc;refine Kd.FK_mono (h.old j x u hx hu) (fun k hk=>⟨hk.1.1,fun e=>hk.2 ?_⟩)
  simpa [Value.ownBlock]using e
theorem RowsAt.lt{α:Type}{d:Kd α}{e1 e2:Nat}{w:World}{base g cap m c H0:Nat}{cs:List Value}{done:List (List α)}{part:List α}(h:RowsAt d e1 e2 w base g cap m c H0 cs done part):base≤g:=(h.row.lt g (by simp[Value.ownBlock])).1
theorem RowsAt.after{α:Type}{d:Kd α}{e1 e2:Nat}{w w1:World}{base g cap m c H0:Nat}{cs:List Value}{done:List (List α)}{part:List α}(h:RowsAt d e1 e2 w base g cap m c H0 cs done part){row:Option Nat}(hg:w.grownBy w1 row)(hvo: ∀k,row=some k→H0≤k){j:Nat}{u:Value}(hj:cs[j]? =some u):w1.cell? ⟨g,j,none⟩=some u∧w1.frozen? ⟨g,j,none⟩=false:=by
 have hgh:=h.hg;have hlt:=(List.getElem?_eq_some_iff.1 hj).1;have h1:w1.ownsRow base e2 1 (.slice (some ⟨g,0,none⟩) m cap) m (encs (fun v:Value=>v) cs):=own_move h.row (fun k hk=>by
  have e:g=k:=by simpa [Value.ownBlock]using hk
  subst e;exact hg.block g (h.row.lt g hk).2 (fun e=>by have:=hvo g e.symm;omega))
 have h2:=own_at_of (d:=Value.bool false) h1 (j:Int) (by omega) (by have:=h.len;omega);rw[Int.toNat_natCast]at h2;have e:rdOf (Value.bool false) cs (j:Int)=u:=by simp[rdOf,List.getD_eq_getElem?_getD,hj]
 rw[e]at h2;exact h2
theorem N_own_ge{α:Type}{d:Kd α}{e:Nat}{w:World}{H0:Nat}{v:Value}{xs:List α}(h:Kd.N d e w H0 (fun k=>H0≤k) v xs): ∀k,v.ownBlock=some k→H0≤k:=h.1
def seedRow(k:Nat)(c:Int):List Int→List S59→Option (List S59)
 | [],acc=>some acc
 |d::l,acc=>(sparse_whole.f k (if c=d then 1 else 0)).bind fun t=>seedRow k c l (acc++ [⟨t.1,t.2.1,t.2.2.1,t.2.2.2⟩])
def seedRows(k:Nat)(l0:List Int):Nat→Nat→List (List S59)→Option (List (List S59))
 |0,_,acc=>some acc
 |n+1,c,acc=>(seedRow k (c:Int) l0 []).bind fun row=>seedRows k l0 n (c+1) (acc++ [row])
def sparse_seeds.f(k:Nat)(l0:List Int)(a1:Int):Option (List (List S59)):=if(decide (0≤a1) && decide (a1≤1000000) && decide (l0.length≤1000000))=true then seedRows k l0 a1.toNat 0 []else none
theorem sparse_seeds.calls(k:Nat)(A0:Option Addr)(c0:Nat)(l0:List Int)(a1:Int)(r:List (List S59))(w:World)(hr0:Kd.C (Kd.int .i64) w A0 l0.length l0)(hc0:l0.length≤c0)(h:sparse_seeds.f k l0 a1=some r):
  Calls Tryz.prog 51 #[.slice A0 l0.length c0,.int .i64 a1] w fun e w'=> ∃v0_:Value,e= .returned (v0_)∧Kd.N (Kd.slice 59 k59) 35 w' w.heap.size (fun k_=>(w.heap.size≤k_)) v0_ r∧Below w.heap.size w w':=by
 have HR0:=Aside0.mk hr0;have hn0:l0.length≤9223372036854775807:=hr0.2.1;clear hr0 hc0;unfold sparse_seeds.f at h;split at h
 case isFalse=>cases h
 case isTrue hok=>
 simp only[Bool.and_eq_true,decide_eq_true_eq]at hok;obtain⟨⟨ha0,ha1⟩,hl0⟩:=hok;obtain⟨m,rfl⟩:=Int.eq_ofNat_of_zero_le ha0;rw[Int.toNat_natCast]at h;have H0:=Aside0.mk h;clear h;have hm1:m≤1000000:=by omega
 go_enter Tryz.func51,Tryz.ntmps51
 go_wp2_with (refine gD 11 ?_;refine Kd.R_make (Kd.scalar (fun v:Value=>Value.slice none 0 0) (fun _=>rfl)) _ 35 rfl (N:=11) rfl 24 _ _ rfl (m:Int) rfl rfl Tryz.underlying24 (.slice none 0 0) 24 infoRats rfl (by decide) (by omega) (.slice none 0 0) (ok:=fun _=>True) (okp:=fun _=>True) rfl (fun _ hk=>hk) trivial (by omega) (by omega) (Below.refl _ _) (Nat.le_refl _) ?_;intro v1 w1 ho hb _ hnew;have ho2:=Kd.own_of_R ho;rw[List.length_replicate,Int.toNat_natCast]at ho2;obtain⟨g,cap,rfl⟩:=slice_form ho2 (hnew.imp fun b h=>h.1);have HO:=Aside0.mk ho2;have HB:=Aside0.mk hb;clear ho ho2 hb hnew)
 go_loopg [14] m (fun gg s14 wr=> ∃ (c H0:Nat) (cs:List Value) (done:List (List S59)),c≤m∧m - c≤gg∧s14= .int .i64 c∧Aside0 (RowsAt k59 59 35 wr w.heap.size g cap m c H0 cs done [])∧Aside0 (Below w.heap.size w wr)∧Aside0 (seedRows k l0 (m - c) c done=some r))
 case atStart=>
  refine⟨0,w1.heap.size,List.replicate m (.slice none 0 0),[],Nat.zero_le _,by omega,rfl,⟨⟨?_,?_,Nat.le_refl _,HB.out.size,by simp,rfl,fun j x u hx=>by simp at hx,fun hc=>⟨_,by rw[List.getElem?_replicate,if_pos hc],Kd.N_nil _ _ _ _ _⟩,fun j _ hj=>by rw[List.getElem?_replicate,if_pos hj]⟩⟩,HB,H0⟩
  ·have:=HO.out
   simpa [encs]using this
  ·exact(HO.out.lt g (by simp[Value.ownBlock])).2
 case round=>
  clear H0 HB HO;obtain⟨c,H0,cs,done,hc,hgc,rfl,HA,HB,HP⟩:=hrel;by_cases hlt:c< m
  ·have hltz:(c:Int)< (m:Int):=by omega
   obtain⟨n,hn⟩: ∃n,m - c=n+1:=⟨m - c - 1,by omega⟩;have hP:=HP.out;rw[hn,seedRows]at hP;obtain⟨row,hrow,hP⟩:=Option.bind_eq_some_iff.1 hP;have HP:=Aside0.mk hP;have HRow:=Aside0.mk hrow;have Hn:=Aside0.mk hn;clear hP hrow hn;go_wp2_with fail
   go_loopg [19] l0.length (fun gg s19 wr=> ∃ (i:Nat) (cs:List Value) (part:List S59),i≤l0.length∧l0.length - i≤gg∧part.length≤i∧s19= .int .i64 i∧Aside0 (RowsAt k59 59 35 wr w.heap.size g cap m c H0 cs done part)∧Aside0 (Below w.heap.size w wr)∧Aside0 (seedRow k (c:Int) (l0.drop i) part=some row))
   case atStart=>exact⟨0,cs,[],Nat.zero_le _,by omega,by simp,rfl,HA,HB,HRow⟩
   case round=>
    clear HA HB HRow;obtain⟨i,cs,part,hi,hgi,hpl,rfl,HA,HB,HRow⟩:=hrel;by_cases hit:i< l0.length
    ·have hitz:(i:Int)< (l0.length:Int):=by omega
     obtain⟨ad,e2,hx2⟩:=Kd.at_int (Kd.C_below HR0.out HB.out) (i:Int) (by omega) (by omega);subst e2;simp only[rd,Int.toNat_natCast]at hx2;have hd:l0.drop i=l0.getD i 0::l0.drop (i+1):=by rw[List.drop_eq_getElem_cons hit];simp[hit]
     have hR:=HRow.out;obtain⟨d,hdd⟩: ∃d,d=l0.getD i 0:=⟨_,rfl⟩;rw[←hdd]at hx2 hd;rw[hd,seedRow]at hR;obtain⟨⟨t1,t2,t3,t4⟩,hw0,hR⟩:=Option.bind_eq_some_iff.1 hR;have HRow:=Aside0.mk hR;clear hR hd hdd;obtain⟨vc,hvc,hN⟩:=HA.out.now hlt;have HN:=Aside0.mk hN;obtain⟨Ac,cc,rfl,hlc,_⟩:=Kd.N_reads hN;have Hvc:=Aside0.mk hvc;have hcell:=(HA.out.cell hvc).1;clear hN;obtain⟨xv,hxv⟩: ∃xv:Int,xv=(if(c:Int)=d then 1 else 0):=⟨_,rfl⟩;rw[←hxv]at hw0;have HW:=Aside0.mk hw0;clear hw0;by_cases hcd:(c:Int)=d
     all_goals
      first|rw[if_pos hcd]at hxv|rw[if_neg hcd]at hxv
      subst hxv;first|have hcdb:((c:Int)==d)=true:=beq_iff_eq.2 hcd|have hcdb:((c:Int)==d)=false:=beq_eq_false_iff_ne.2 hcd
      clear hcd;go_wp2_with fail
      refine start_ (n:=12) (S:=fun w'=>w'.cell? ⟨g,c,none⟩=some (.slice Ac part.length cc)) (ds:= [11]) (M_ 12 0) (by kernel_rfl) rfl (by kernel_rfl) ((HA.out.cell hvc).1) (fun hHeld=>?_);refine pu_ 0 (some 26) (M_ 12 1) ?_;refine pu_ 1 (some 27) (M_ 12 3) ?_;refine pu_ 2 (some 28) (M_ 12 7) ?_;refine pu_ 3 (some 29) (M_ 12 15) ?_;refine pu_ 4 (some 30) (M_ 12 31) ?_;refine pu_ 6 (some 32) (M_ 12 95) ?_;refine ta_ 5 (some 31) (M_ 12 127) hHeld ?_;refine one_ (i:=7) (N:=some 33) (M_ 12 255) rfl rfl (by kernel_rfl) (by decide) (fun K hK=>?_);refine goes_ Tryz.func43 (by kernel_rfl) rfl #[.int .i64 _] (by rfl) rfl rfl (by simp only[List.map_toArray,List.map_cons,List.map_nil];rfl) ?_;(with_reducible refine(sparse_whole.calls k _ t1 t2 t3 t4 _ HW.out).mono ?_);rintro e w3 ⟨v2,v3,rfl,hv2,hv3,hb3⟩;refine⟨_,rfl,?_⟩;obtain⟨A2,c2,rfl⟩:=Kd.V_slice hv2;obtain⟨A3,c3,rfl⟩:=Kd.V_slice hv3;replace hb3:=(Below.refl wr.heap.size wr).drew.trans hb3;have HA3:=Aside0.mk (HA.out.below hb3);have HV2:=Aside0.mk hv2;have HV3:=Aside0.mk hv3;have HB3:=Aside0.mk hb3;clear hv2 hv3 hb3;refine hK.out _ _ ((HA3.out.cell hvc).1) (fun hHeld=>?_);clear hK K;refine no_ 33 ?_;refine one_ (i:=8) (N:=some 34) (M_ 12 511) rfl rfl (by kernel_rfl) (by decide) (fun K hK=>?_);refine value_ (w1:=?_) (v:=?_) (by rfl) rfl ?_ ?_;rotate_left 2
      ·go_simp;constructor
       ·rfl
       ·rfl
      refine hK.out _ _ (((HA3.out.below (below_alloc (Below.refl _ _) _)).cell hvc).1) (fun hHeld=>?_);clear hK K;refine no_ 34 ?_;refine one_ (i:=9) (N:=some 35) (M_ 12 1023) rfl rfl (by kernel_rfl) (by decide) (fun K hK=>?_);refine Kd.N_append_step k59 (w0:=w3) H0 (by rfl) (.tmp 31) (.tmp 34) 35 59 (.agg #[.int .i64 0,.bool false,.slice none 0 0,.slice none 0 0]) 64 rfl Tryz.underlying35 infoRat rfl (by decide) (by omega) (.slice Ac part.length cc) part ⟨t1,t2,t3,t4⟩ [.int .i64 t1,.bool t2,.slice A2 t3.length c2,.slice A3 t4.length c3] (fun k=>H0≤k) (fun k=>wr.heap.size≤k) rfl rfl ?hp ?hokp ?hfresh ?HO ?HB ?hbase ?hl ?_;(case hp=>exact k59_mkF _ _ ⟨t1,t2,t3,t4⟩ (Kd.V_at HV2.out).2.1 (Kd.V_at HV2.out).2.2 (Kd.V_at HV3.out).2.1 (Kd.V_at HV3.out).2.2);(case hokp=>exact fun k hk=>⟨Nat.le_trans HA.out.hw hk,fun e=>by have h1:=Kd.N_lt HN.out k e.symm;have hk:wr.heap.size≤k:=hk;omega⟩);(case hfresh=>exact fun k hk=>Nat.le_trans HA3.out.hw hk);(case HO=>exact Kd.N_below HN.out HB3.out);(case HB=>exact Below.refl _ _);(case hbase=>exact HA3.out.hw);(case hl=>omega);intro v1 w5 hN5 _ hg5 _;obtain⟨A5,c5,rfl,_⟩:=Kd.N_reads hN5;rw[List.length_append,List.length_singleton]at hN5;obtain⟨hc5,hf5⟩:=HA3.out.after hg5 (N_own_ge HN.out) hvc;have HN5:=Aside0.mk hN5;have HG5:=Aside0.mk hg5;clear hN5 hg5;refine hK.out _ _ (hc5) (fun hHeld=>?_);clear hK K;refine no_ 35 ?_;refine pu_ 10 (some 36) (M_ 12 2047) ?_;refine last_ (i:=11) (N:=none) (M_ 12 4095) rfl rfl (by kernel_rfl) (by decide) (fun K hK=>?_);refine skip_ (w1:=?_) (by rfl) rfl ?_ ?_;rotate_left
      ·go_simp;rfl
      refine hK.out _ _ ?_;clear hK K;refine done_ (by kernel_rfl) ?_;go_wp2_with fail
      go_roundg (l0.length - (i+1))
      case measure=>omega
      case rel=>
       exact⟨i+1,cs.set c _,part++ [⟨t1,t2,t3,t4⟩],by omega,by omega,by simp;omega,by go_num,⟨HA3.out.put hlt Hvc.out HG5.out (N_own_ge HN.out) HN5.out⟩,⟨((HB.out.trans (HB3.out.mono HB.out.size)).grown HG5.out (by have:=HB.out.size;have:=HB3.out.size;omega) (fun q hq=>by have:=N_own_ge HN.out q hq;have:=HA.out.hb;omega)).setCell HA.out.lt _⟩,HRow⟩
    ·have hitz: ¬ (i:Int)< (l0.length:Int):=by omega
     have:i=l0.length:=by omega
     subst this;have hR:=HRow.out;rw[List.drop_length,seedRow]at hR;have hpr:part=row:=Option.some.inj hR;subst hpr;clear hR;go_wp2_with fail
     go_roundg (m - (c+1))
     case measure=>omega
     case rel=>
      exact⟨c+1,wr.heap.size,cs,done++ [part],by omega,by omega,by go_num,⟨HA.out.next hlt⟩,HB,⟨by rw[show m - (c+1)=n by have:=Hn.out;omega];exact HP.out⟩⟩
  ·have hltz: ¬ (c:Int)< (m:Int):=by omega
   have:c=m:=by omega
   subst this;have hP:=HP.out;rw[Nat.sub_self,seedRows]at hP;have hdr:done=r:=Option.some.inj hP;subst hdr;go_wp2_with fail
   go_ret;exact⟨_,rfl,HA.out.done,HB.out⟩
end
def sparse_Seeds.f(k:Nat)(l0:List Int):Option ((List (List (S59)))×Int):=(sparse_seeded.f k l0).bind fun bt267=>(if bt267.2=0 then((sparse_seeds.f k l0 bt267.1).bind fun t269=>(some (t269,0)))else(some (([] :List (List (S59))),bt267.2)))
theorem sparse_Seeds.calls(k:Nat)(A0:Option Addr)(c0:Nat)(l0:List Int)(r1:List (List (S59)))(r2:Int)(w:World)(hr0:Kd.C (Kd.int .i64) w A0 l0.length l0)(hc0:l0.length≤c0)(h:sparse_Seeds.f k l0=some (r1,r2)):
  Calls Tryz.prog 20 #[.slice A0 l0.length c0] w fun e w'=> ∃v0_:Value,e= .returned (.tuple #[v0_,.int .i64 r2])∧Kd.N (Kd.slice 59 k59) 35 w' w.heap.size (fun k_=>(w.heap.size≤k_)) v0_ r1∧Below w.heap.size w w':=by
 have HR0:=Aside0.mk hr0;have HC0:=Aside0.mk hc0;clear hr0 hc0;have HB:=Aside0.mk (Below.refl w.heap.size w);have H:=h;clear h;unfold sparse_Seeds.f at H;obtain⟨⟨t267,t268⟩,A2,H⟩:=bO H;(try dsimp only at H);by_cases c3:t268=0
 ·rw[if_pos c3]at H;have c3b0:=beq_iff_eq.mpr c3;have c3b1:=bne_eq_false_iff_eq.mpr c3;clear c3;obtain⟨t269,A4,H⟩:=bO H;(try dsimp only at H);simp only[Option.some.injEq,Prod.mk.injEq]at H;obtain⟨rfl,rfl⟩:=H;go_enter Tryz.func20,Tryz.ntmps20
  go_wp2_with (first| (refine gF 37 ?_;refine gl_ (some 8) Tryz.func37 #[.slice A0 l0.length c0] ?_;(with_reducible refine(sparse_seeded.calls k _ _ l0 t267 t268 _ (cQ (HR0.out)) HC0.out A2.out).mono ?_);rintro e w5 ⟨rfl,hb⟩;refine⟨_,rfl,?_⟩;replace HB:=Aside0.mk (below_step bQ hb);(try clear hb);(try clear hb2);(try clear hk);(try clear hi)) | (refine gF 51 ?_;refine gl_ (some 16) Tryz.func51 #[.slice A0 l0.length c0,.int .i64 t267] ?_;(with_reducible refine(sparse_seeds.calls k _ _ l0 t267 t269 _ (cbQ HR0 HB) HC0.out A4.out).mono ?_);rintro e w6 ⟨v270,rfl,ho0,hb⟩;refine⟨_,rfl,?_⟩;have HO271:=Aside0.mk (Kd.N_lower (Kd.N_mono (ok':=fun k_=>(w.heap.size≤k_)) ho0 (fun k_ hk_=>(Nat.le_trans (below_size bQ) hk_))) (below_size bQ));replace HB:=hsQ hb;(try clear hb);(try clear hb2);(try clear hk);(try clear hi);(try clear ho0)))
  go_ret2;exact⟨_,eQ,nX (h:=HO271.out),bQ⟩
 ·rw[if_neg c3]at H;have c3b0:=beq_eq_false_iff_ne.mpr c3;have c3b1:=bne_iff_ne.mpr c3;simp only[Option.some.injEq,Prod.mk.injEq]at H;obtain⟨rfl,rfl⟩:=H;go_enter Tryz.func20,Tryz.ntmps20
  go_wp2_with (first| (refine gF 37 ?_;refine gl_ (some 8) Tryz.func37 #[.slice A0 l0.length c0] ?_;(with_reducible refine(sparse_seeded.calls k _ _ l0 t267 t268 _ (cQ (HR0.out)) HC0.out A2.out).mono ?_);rintro e w7 ⟨rfl,hb⟩;refine⟨_,rfl,?_⟩;replace HB:=Aside0.mk (below_step bQ hb);(try clear hb);(try clear hb2);(try clear hk);(try clear hi)))
  go_ret2;exact⟨(.slice none 0 0),eQ,by first|exact Kd.R_nil _ _ _ _ _|exact Kd.N_nil _ _ _ _ _|exact Kd.V_nil _ _ _ _ _|exact Kd.Q_nil _ _ _ _ _|exact Kd.S_nil _ _ _ _ _,bQ⟩
end Go.Proofs.YtjjbondlcjnaiaaGreat.PSparseSeeds
