-- written by a program of this session, after the kit's print
import Derived.Test.YtjjbondlcjnaiaaDoorPSparseJoinedx8
namespace Go.Proofs.YtjjbondlcjnaiaaDoor.PSparseJoined
open Go.RowKit Go.Proofs.YtjjbondlcjnaiaaDoorW.PrintWords Go.Proofs.YtjjbondlcjnaiaaDoorW.PrintLast Go.Proofs.YtjjbondlcjnaiaaDoorW.PrintMore
set_option maxHeartbeats 8000000
set_option maxRecDepth 100000
attribute [local go_sem] max2_int min2_int max_two min_two max_three min_three max_four min_four
set_option linter.unusedVariables false
set_option linter.unusedSimpArgs false
section
open Go.Maps
theorem intset_inv{P:Program}{e:TypeId}(he:P.underlying e=some .bool){v:Value}{c:Bool}{ps:List MemPlace}(h:plainElem (H:=Unit) P e v=some (.lit (.bool c),ps)):v= .bool c:=by
 unfold plainElem at h;rw[he]at h;cases v<;>simp at h
 rw[h.1]
def IntSet(w:World)(b n:Nat)(f:Int→Bool):Prop:= ∃D:DataW Unit,w.ownsMap Tryd.prog 3 (plainElem Tryd.prog 4) b n D∧Maps.IsMap D∧ ∀x,D.atKey (.int .i64 x) (.lit (.bool false))= .lit (.bool (f x))
section
variable {w w1:World} {b n:Nat} {f g:Int→Bool}
theorem IntSet.congr(h:IntSet w b n f)(hf: ∀x,f x=g x):IntSet w b n g:=by
 obtain⟨D,h1,h2,h3⟩:=h;exact⟨D,h1,h2,fun x=>by rw[←hf];exact h3 x⟩
theorem IntSet.made(w:World):IntSet (w.alloc (.map #[] 0)) w.heap.size 0 (fun _=>false):=⟨.map [],World.ownsMap_made _ _ _ _,⟨[],rfl⟩,fun x=>by simp[DataW.atKey]⟩
theorem IntSet.mono(h:IntSet w b n f){m:Nat}(hm:n≤m):IntSet w b m f:=by
 obtain⟨D,h1,h2⟩:=h;exact⟨D,h1.mono hm,h2⟩
theorem IntSet.alloc(h:IntSet w b n f)(o:Obj):IntSet (w.alloc o) b n f:=by
 obtain⟨D,h1,h2⟩:=h;exact⟨D,h1.alloc o,h2⟩
theorem IntSet.lt(h:IntSet w b n f):b< w.heap.size:=by
 obtain⟨D,h1,h2⟩:=h;exact h1.lt
theorem IntSet.kept(h:IntSet w b n f)(hh:w1.heap[b]? =w.heap[b]?):IntSet w1 b n f:=by
 obtain⟨D,⟨es,cl,hb,r⟩,h2⟩:=h;exact⟨D,⟨es,cl,hh.trans hb,r⟩,h2⟩
theorem IntSet.look(h:IntSet w b n f)(x:Int)(hx:(Lit.int .i64 x).wf=true):(Instr.lookup 102 (.map (some b)) (.int .i64 x) false).run Tryd.prog w= .ok (.bool (f x)) w:=by
 obtain⟨D,h1,h2,h3⟩:=h;obtain⟨v,ps,hr,hv⟩:=h1.lookup (t:=102) (e:=4) (Maps.int_keyed Tryd.underlying3) Tryd.underlying102 (z:= .bool false) (by kernel_rfl) (plainElem_bool Tryd.underlying4 false) (key:= .int .i64 x) (keyOf_int_mk Tryd.underlying3 hx);rw[h3]at hv;rw[hr,intset_inv Tryd.underlying4 hv]
theorem IntSet.put(h:IntSet w b n f)(hn:n< maxLen)(x:Int)(hx:(Lit.int .i64 x).wf=true)(c:Bool): ∃w',(Instr.mapUpdate 102 (.map (some b)) (.int .i64 x) (.bool c)).run Tryd.prog w= .ok () w'∧IntSet w' b (n+1) (fun y=>if y=x then c else f y)∧w.grownBy w' (some b):=by
 obtain⟨D,h1,h2,h3⟩:=h;obtain⟨w',hr,ho,hg⟩:=h1.update (t:=102) (e:=4) (Maps.int_keyed Tryd.underlying3) Tryd.underlying102 hn (key:= .int .i64 x) (val:= .bool c) (keyOf_int_mk Tryd.underlying3 hx) (plainElem_bool Tryd.underlying4 c);refine⟨w',hr,⟨_,ho,h2.put _ _,fun y=>?_⟩,hg⟩;by_cases e:y=x
 ·subst e
  show _=DataW.lit (Lit.bool (if y=y then c else f y))
  rw[if_pos rfl];exact Maps.atKey_put_same h2 ((Maps.int_keyed (P:=Tryd.prog) Tryd.underlying3).key (keyOf_int_mk Tryd.underlying3 hx)) _ _
 ·show _=DataW.lit (Lit.bool (if y=x then c else f y))
  rw[if_neg e,Maps.atKey_put_other (by simpa using e)];exact h3 y
end
theorem wpList_intset_put(w:World){ops:Array Oper}{rest:List Oper}{o:Oper}{a:Act}{Q:Exit→Act→World→Prop}
  (hg:o.guard=none) (m x v:Operand) (hop:o.op=Op.mapUpdate 102 m x v) (b n:Nat) (f:Int→Bool)
  (hm:a.eval m= .map (some b)) (hs:IntSet w b n f) (hn:n< maxLen) (k:Int) (c:Bool) (hx:a.eval x= .int .i64 k) (hv:a.eval v= .bool c) (hk:(Lit.int .i64 k).wf=true)
  (hK: ∀w',IntSet w' b (n+1) (fun y=>if y=k then c else f y)→w.grownBy w' (some b)→wpList Tryd.prog ops Q rest (a.put o.dst undef) w'):
  wpList Tryd.prog ops Q (o::rest) a w:=by
 refine wpList_plain hg fun K' hK'=>?_
 obtain⟨w',hrun,r1,r2⟩:=hs.put hn k hk c;unfold Oper.wp;simp[execOp,hop,hm,hx,hv,hrun,Result.andThen]
 exact hK' _ _ (hK w' r1 r2)
def seenAt(row:List Bool)(cs:List Int)(k:Nat)(x:Int):Bool:=(List.range k).any fun j=>row.getD j false && (cs.getD j 0==x)
def fitAt(row:List Bool)(cs:List Int)(k:Nat):Bool:=!(row.getD k false && seenAt row cs k (cs.getD k 0))
def fitRow(row:List Bool)(cs:List Int):Bool:=(List.range row.length).all (fitAt row cs)
def wfInts(cs:List Int):Bool:=cs.all fun c=>decide (-9223372036854775808≤c) && decide (c≤9223372036854775807)
def sparse_fits.f(l0:List (List Bool))(l1:List Int):Option Bool:=if(wfInts l1 && l0.all (fun row=>decide (row.length≤l1.length)))=true then some (l0.all fun row=>fitRow row l1)else none
theorem seenAt_succ(row:List Bool)(cs:List Int)(k:Nat)(x:Int):seenAt row cs (k+1) x=(seenAt row cs k x|| (row.getD k false && (cs.getD k 0==x))):=by
 unfold seenAt;rw[List.range_succ,List.any_append,List.any_cons,List.any_nil,Bool.or_false]
theorem wfInts_at{cs:List Int}(h:wfInts cs=true){k:Nat}(hk:k< cs.length):(Lit.int .i64 (cs.getD k 0)).wf=true:=by
 have h1:=List.all_eq_true.1 h cs[k] (List.getElem_mem _);simp only[Bool.and_eq_true,decide_eq_true_eq]at h1;have e:cs.getD k 0=cs[k] :=by simp[hk]
 rw[e];exact WalkArith.wf_i64 h1
theorem sparse_fits.calls(A0:Option Addr)(c0:Nat)(l0:List (List Bool))(A1:Option Addr)(c1:Nat)(l1:List Int)(r:Bool)(w:World)(hr0:Kd.C (Kd.slice 4 Kd.bool) w A0 l0.length l0)(hc0:l0.length≤c0)(hr1:Kd.C (Kd.int .i64) w A1 l1.length l1)(hc1:l1.length≤c1)(h:sparse_fits.f l0 l1=some r):
  Calls Tryd.prog 41 #[.slice A0 l0.length c0,.slice A1 l1.length c1] w fun e w'=>e= .returned (.bool r)∧Below w.heap.size w w':=by
 have HR0:=Aside0.mk hr0;have HR1:=Aside0.mk hr1;have hn0:l0.length≤9223372036854775807:=hr0.2.1;have hn1:l1.length≤9223372036854775807:=hr1.2.1;clear hr0 hr1 hc0 hc1;unfold sparse_fits.f at h;split at h
 case isFalse=>cases h
 case isTrue hok=>
 rw[Bool.and_eq_true]at hok;have HW:=Aside0.mk hok.1;have HL:=Aside0.mk (List.all_eq_true.1 hok.2);have HR:=Aside0.mk (Option.some.inj h);clear hok h;have hmm:= @run_makeMap Tryd.prog;go_enter Tryd.func41,Tryd.ntmps41
 go_wp2
 go_loopg [12] l0.length (fun gg s12 wr=> ∃i:Nat,i≤l0.length∧l0.length - i≤gg∧s12= .int .i64 i∧Aside0 (Below w.heap.size w wr)∧Aside0 (∀x,x∈l0.take i→fitRow x l1=true))
 case atStart=>exact⟨0,Nat.zero_le _,by omega,rfl,⟨Below.refl _ _⟩,⟨by simp⟩⟩
 case round=>
  obtain⟨i,hi,hg,rfl,HB,HA⟩:=hrel;by_cases hlt:i< l0.length
  ·have hltz:(i:Int)< (l0.length:Int):=by omega
   obtain⟨ad,c,e0,hcl,hK,hc0'⟩:=Kd.C_get (Kd.C_below HR0.out HB.out) ([] :List Bool) (i:Int) (by omega) (by omega);subst e0;obtain⟨A2,c2,rfl,hl2,hr2⟩:=hK;have hx:l0.getD (Int.toNat i) [] =l0[i] :=by simp[hlt]
   rw[hx]at hc0' hl2 hr2;have hcell:wr.cell? (ad.add i)=some (.slice A2 l0[i].length c2):=by
    have:=hc0' 0 _ rfl
    simpa [Kd.slice]using this
   have HR2:=Aside0.mk hr2;have hn2:l0[i].length≤9223372036854775807:=hr2.2.1;have hlen:l0[i].length≤l1.length:=of_decide_eq_true (HL.out l0[i] (List.getElem_mem _));obtain⟨row,hrow⟩: ∃row,row=l0[i] :=⟨_,rfl⟩;rw[←hrow]at hcell HR2 hn2 hlen;have Hrow:=Aside0.mk hrow;clear hc0' hl2 hr2 hx hcl hrow;have HC:=Aside0.mk hcell;obtain⟨wo,hwo⟩: ∃wo:World,wo=wr:=⟨_,rfl⟩;subst hwo;go_wp2_with fail
   go_loopg [19] row.length (fun gg s19 w'=> ∃k:Nat,k≤row.length∧row.length - k≤gg∧s19= .int .i64 k∧Aside0 (Below wo.heap.size wo w')∧Aside0 (IntSet w' wo.heap.size k (seenAt row l1 k))∧Aside0 (∀j,j< k→fitAt row l1 j=true))
   case atStart=>exact⟨0,Nat.zero_le _,by omega,rfl,⟨(Below.refl _ _).alloc (Nat.le_refl _) _⟩,⟨(IntSet.made wo).congr (fun x=>rfl)⟩,⟨fun j hj=>absurd hj (by omega)⟩⟩
   case round=>
    obtain⟨k,hk,hg2,rfl,HB2,HS,HF⟩:=hrel;by_cases hkt:k< row.length
    ·have hktz:(k:Int)< (row.length:Int):=by omega
     have hkl:k< l1.length:=by omega
     have hklz:(k:Int)< (l1.length:Int):=by omega
     have hBw:Below w.heap.size w wr:=HB.out.trans (HB2.out.mono HB.out.size);obtain⟨ad2,e2,hx2⟩:=Kd.at_bool (Kd.C_below HR2.out HB2.out) (k:Int) (by omega) (by omega);obtain⟨ad3,e3,hx3⟩:=Kd.at_int (Kd.C_below HR1.out hBw) (k:Int) (by omega) (by omega);subst e2 e3;simp only[rd,rdOf,Int.toNat_natCast]at hx2 hx3;have hwf:=wfInts_at HW.out hkl;have hss:=seenAt_succ row l1 k;have hfa:fitAt row l1 k=!(row.getD k false && seenAt row l1 k (l1.getD k 0)):=rfl;obtain⟨ck,hck⟩: ∃ck,ck=l1.getD k 0:=⟨_,rfl⟩;rw[←hck]at hx3 hwf hfa hss;obtain⟨bk,hbk⟩: ∃bk,bk=row.getD k false:=⟨_,rfl⟩;rw[←hbk]at hx2 hfa hss;have hlook:=IntSet.look HS.out ck hwf;have Hfa:=Aside0.mk hfa;have Hss:=Aside0.mk hss;have Hwf:=Aside0.mk hwf;clear hss hfa hck hbk hwf;cases bk with
     |false=>
      clear hlook;go_wp2_with fail
      go_roundg (row.length - (k+1))
      case measure=>omega
      case rel=>
       refine⟨k+1,by omega,by omega,by go_num,HB2,⟨(HS.out.congr (fun x=>?_)).mono (by omega)⟩,⟨fun j hj=>?_⟩⟩
       ·rw[Hss.out x];simp
       ·by_cases e:j=k
        ·subst e;rw[Hfa.out];rfl
        ·exact HF.out j (by omega)
     |true=>
      obtain⟨sk,hsk⟩: ∃sk,sk=seenAt row l1 k ck:=⟨_,rfl⟩;rw[←hsk]at hlook;have Hsk:=Aside0.mk hsk;clear hsk;cases sk with
      |true=>
       go_wp2_with fail
       go_ret;have hrr:r=false:=by
        rw[←HR.out];refine List.all_eq_false.2 ⟨l0[i],List.getElem_mem _,?_⟩;rw[←Hrow.out];refine Bool.eq_false_iff.1 (List.all_eq_false.2 ⟨k,List.mem_range.2 hkt,?_⟩);rw[Hfa.out,←Hsk.out];decide
       exact⟨by rw[hrr];rfl,hBw⟩
      |false=>
       go_wp2_with (at_mapUpdate;(refine wpList_intset_put _ rfl _ _ _ rfl wo.heap.size k _ rfl HS.out (by unfold maxLen;omega) ck true rfl rfl Hwf.out ?_);intro w1 hs1 hg1;have HS1:=Aside0.mk hs1;have HG1:=Aside0.mk hg1;clear hs1 hg1)
       go_roundg (row.length - (k+1))
       case measure=>omega
       case rel=>
        refine⟨k+1,by omega,by omega,by go_num,⟨HB2.out.grown HG1.out HB2.out.size (fun b hb=>by cases hb;exact Nat.le_refl _)⟩,⟨HS1.out.congr (fun x=>?_)⟩,⟨fun j hj=>?_⟩⟩
        ·rw[Hss.out x];by_cases e:x=ck
         ·subst e;simp
         ·rw[if_neg e]
          have:(ck==x)=false:=beq_eq_false_iff_ne.2 (Ne.symm e)
          rw[this];simp
        ·by_cases e:j=k
         ·subst e;rw[Hfa.out,←Hsk.out];rfl
         ·exact HF.out j (by omega)
    ·have hktz: ¬ (k:Int)< (row.length:Int):=by omega
     have:k=row.length:=by omega
     subst this;go_wp2_with fail
     go_roundg (l0.length - (i+1))
     case measure=>omega
     case rel=>
      refine⟨i+1,by omega,by omega,by go_num,⟨HB.out.trans (HB2.out.mono HB.out.size)⟩,⟨fun x hx=>?_⟩⟩;rw[List.take_succ_eq_append_getElem hlt,List.mem_append]at hx;rcases hx with hx|hx
      ·exact HA.out x hx
      ·rw[List.mem_singleton.1 hx,←Hrow.out];exact List.all_eq_true.2 (fun j hj=>HF.out j (List.mem_range.1 hj))
  ·have hltz: ¬ (i:Int)< (l0.length:Int):=by omega
   have:i=l0.length:=by omega
   subst this;go_wp2_with fail
   go_ret;rw[List.take_length]at HA;have hrr:r=true:=by rw[←HR.out];exact List.all_eq_true.2 HA.out
   exact⟨by rw[hrr];rfl,HB.out⟩
end
section
open Go.Maps
def mapK:Kd (Option Nat):=Kd.scalar Value.map (fun _=>rfl)
def SameBut(w w1:World):Prop:= ∀ (k:Nat) (o:Obj),w.heap[k]? =some o→(∀c,o≠.cells c 3 (0,0))→w1.heap[k]? =some o
theorem SameBut.of_grown{w w1:World}{row:Option Nat}(hg:w.grownBy w1 row)(hr: ∀k,row=some k→ ∃c,w.heap[k]? =some (.cells c 3 (0,0))):SameBut w w1:=by
 intro k o ho hne;have hlt:k< w.heap.size:=(Array.getElem?_eq_some_iff.1 ho).1;rw[hg.block k hlt (fun e=>?_)]
 ·exact ho
 ·obtain⟨c,hc⟩:=hr k e.symm;rw[hc]at ho;exact hne c (Option.some.inj ho).symm
structure Used (w:World) (base g cap:Nat) (bs:List (Option Nat)) (cnt:Nat) (F:Nat→Int→Bool):Prop where
 row:w.ownsRow base 102 1 (.slice (some ⟨g,0,none⟩) bs.length cap) bs.length (encs Value.map bs)
 at_: ∀ (r b:Nat),bs[r]? =some (some b)→base≤b∧IntSet w b cnt (F r)
 one: ∀ (r r' b:Nat),bs[r]? =some (some b)→bs[r']? =some (some b)→r=r'
section
variable {w w1:World} {base g cap cnt:Nat} {bs:List (Option Nat)} {F G:Nat→Int→Bool}
theorem Used.congr(h:Used w base g cap bs cnt F)(hF: ∀r x,r< bs.length→F r x=G r x):Used w base g cap bs cnt G:=
 ⟨h.row,fun r b hr=>⟨(h.at_ r b hr).1,(h.at_ r b hr).2.congr (fun x=>hF r x (List.getElem?_eq_some_iff.1 hr).1)⟩,h.one⟩
theorem Used.mono(h:Used w base g cap bs cnt F){m:Nat}(hm:cnt≤m):Used w base g cap bs m F:=
 ⟨h.row,fun r b hr=>⟨(h.at_ r b hr).1,(h.at_ r b hr).2.mono hm⟩,h.one⟩
theorem Used.blk(h:Used w base g cap bs cnt F): ∃c,w.heap[g]? =some (.cells c 102 (0,0)):=own_typed h.row g (by simp[Value.ownBlock])
theorem Used.set_blk{b n:Nat}{f:Int→Bool}(h:IntSet w b n f): ∃es cl,w.heap[b]? =some (.map es cl):=by
 obtain⟨D,⟨es,cl,hb,_⟩,_⟩:=h;exact⟨es,cl,hb⟩
theorem Used.same(h:Used w base g cap bs cnt F)(hs:SameBut w w1):Used w1 base g cap bs cnt F:=by
 refine⟨own_move h.row (fun k hk=>?_),fun r b hr=>⟨(h.at_ r b hr).1,(h.at_ r b hr).2.kept ?_⟩,h.one⟩
 ·have:g=k:=by simpa [Value.ownBlock]using hk
  subst this;obtain⟨c,hc⟩:=h.blk;rw[hc];exact hs _ _ hc (fun c' e=>by cases e)
 ·obtain⟨es,cl,hb⟩:=Used.set_blk (h.at_ r b hr).2;rw[hb];exact hs _ _ hb (fun c' e=>by cases e)
theorem Used.cell(h:Used w base g cap bs cnt F){r:Nat}{b:Nat}(hr:bs[r]? =some (some b)):w.cell? ⟨g,r,none⟩=some (.map (some b)):=by
 have hlt:=(List.getElem?_eq_some_iff.1 hr).1
 have:=(own_at_of (d:=none) h.row (r:Int) (by omega) (by omega)).1
 rw[Int.toNat_natCast]at this;rw[this];have e:rdOf none bs (r:Int)=some b:=by simp[rdOf,List.getD_eq_getElem?_getD,hr]
 rw[e]
theorem Used.put(h:Used w base g cap bs cnt F){r b:Nat}(hr:bs[r]? =some (some b))(x:Int){w1:World}(hs:IntSet w1 b (cnt+1) (fun y=>if y=x then true else F r y))(hg:w.grownBy w1 (some b)):
  Used w1 base g cap bs (cnt+1) (fun r' y=>if r'=r∧y=x then true else F r' y):=by
 have hb:=Used.set_blk (h.at_ r b hr).2;refine⟨own_move h.row (fun k hk=>?_),fun r' b' hr'=>⟨(h.at_ r' b' hr').1,?_⟩,h.one⟩
 ·have e:g=k:=by simpa [Value.ownBlock]using hk
  subst e;obtain⟨c,hc⟩:=h.blk;refine hg.block g (Array.getElem?_eq_some_iff.1 hc).1 (fun e=>?_);obtain⟨es,cl,hb⟩:=hb;cases e;rw[hb]at hc;cases hc
 ·by_cases e:r'=r
  ·subst e;rw[hr]at hr';cases hr';exact hs.congr (fun y=>by by_cases ey:y=x<;>simp[ey])
  ·have hne:b'≠b:=fun eb=>e (h.one r' r b (eb▸hr') hr)
   have h1:=(h.at_ r' b' hr').2;refine((h1.kept (hg.block b' h1.lt (fun eb=>hne (Option.some.inj eb)))).mono (Nat.le_succ _)).congr (fun y=>?_);simp[e]
end
theorem SameBut.alloc(w:World)(o:Obj):SameBut w (w.alloc o):=fun k o' ho _=>by
 rw[←ho]
 exact Below.heap_alloc w o k (Array.getElem?_eq_some_iff.1 ho).1
theorem SameBut.trans{a b c:World}(h:SameBut a b)(h':SameBut b c):SameBut a c:=fun k o ho hne=>h' k o (h k o ho hne) hne
theorem Used.make{w:World}{base g cap:Nat}{bs:List (Option Nat)}(h:Used w base g cap bs 0 (fun _ _=>false))(hb:base≤w.heap.size)(r:Nat):
  Used ((w.alloc (.map #[] 0)).setCell ⟨g,r,none⟩ (.map (some w.heap.size))) base g cap (bs.set r (some w.heap.size)) 0 (fun _ _=>false):=by
 have h1:=h.same (SameBut.alloc w (.map #[] 0));obtain⟨hrow,hg⟩:=own_store_of h1.row (r:Int) (some w.heap.size);rw[Int.toNat_natCast]at hrow hg;have hgb:=h.blk;have key: ∀b n f,IntSet (w.alloc (.map #[] 0)) b n f→IntSet ((w.alloc (.map #[] 0)).setCell ⟨g,r,none⟩ (.map (some w.heap.size))) b n f:=by
  intro b n f hs;refine hs.kept (hg.block b hs.lt (fun e=>?_));obtain⟨es,cl,hbm⟩:=Used.set_blk hs;obtain⟨c,hc⟩:=h1.blk;cases e;rw[hbm]at hc;cases hc
 refine⟨by rw[List.length_set];exact hrow,fun r' b hr'=>?_,fun r1 r2 b e1 e2=>?_⟩
 ·by_cases e:r'=r
  ·subst e;rw[List.getElem?_set_self']at hr';cases hx:bs[r']? with
   |none=>rw[hx]at hr';cases hr'
   |some y=>
    rw[hx]at hr';cases hr';exact⟨hb,key _ _ _ (IntSet.made w)⟩
  ·rw[List.getElem?_set_ne (Ne.symm e)]at hr';exact⟨(h1.at_ r' b hr').1,key _ _ _ (h1.at_ r' b hr').2⟩
 ·have old: ∀q b,bs[q]? =some (some b)→b< w.heap.size:=fun q b hq=>(h.at_ q b hq).2.lt
  have get: ∀q b,(bs.set r (some w.heap.size))[q]? =some (some b)→(q=r∧b=w.heap.size)∨(q≠r∧bs[q]? =some (some b)):=by
   intro q b hq;by_cases e:q=r
   ·subst e;rw[List.getElem?_set_self']at hq;cases hx:bs[q]? with
    |none=>rw[hx]at hq;cases hq
    |some y=>rw[hx]at hq;cases hq;exact .inl ⟨rfl,rfl⟩
   ·rw[List.getElem?_set_ne (Ne.symm e)]at hq;exact .inr ⟨e,hq⟩
  rcases get r1 b e1 with ⟨q1,p1⟩ | ⟨n1,g1⟩<;>rcases get r2 b e2 with ⟨q2,p2⟩ | ⟨n2,g2⟩
  ·rw[q1,q2]
  ·exact absurd (old r2 _ g2) (by omega)
  ·exact absurd (old r1 _ g1) (by omega)
  ·exact h.one r1 r2 b g1 g2
theorem ints_kept{w w1:World}{base:Nat}{v:Value}{xs:List Int}(h:Kd.R (Kd.int .i64) 3 w base (fun _=>True) v xs){b:Nat}(hb: ∃es cl,w.heap[b]? =some (.map es cl))(hg:w.grownBy w1 (some b)):Kd.R (Kd.int .i64) 3 w1 base (fun _=>True) v xs:=by
 have ho:=Kd.own_of_R h;refine Kd.R_of_own (own_move ho (fun k hk=>?_)) h.1;obtain⟨c,hc⟩:=own_typed ho k hk;refine hg.block k (Array.getElem?_eq_some_iff.1 hc).1 (fun e=>?_);obtain⟨es,cl,hb⟩:=hb;cases e;rw[hb]at hc;cases hc
def takenF(p:List (List Bool))(F:Nat→Int→Bool)(k:Nat)(c:Int):Bool:=(List.range p.length).any fun r=>(p.getD r []).getD k false && F r c
theorem sparse_taken.calls(A0:Option Addr)(c0:Nat)(l0:List (List Bool))(base g cap cnt:Nat)(bs:List (Option Nat))(F:Nat→Int→Bool)(k:Nat)(c:Int)(w:World)(hr0:Kd.C (Kd.slice 4 Kd.bool) w A0 l0.length l0)
  (hU:Used w base g cap bs cnt F) (hbl:bs.length=l0.length) (hall: ∀r,r< bs.length→ ∃b,bs[r]? =some (some b)) (hk: ∀row,row∈l0→k< row.length) (hwf:(Lit.int .i64 c).wf=true):
  Calls Tryd.prog 56 #[.slice A0 l0.length c0,.slice (some ⟨g,0,none⟩) bs.length cap,.int .i64 k,.int .i64 c] w fun e w'=>e= .returned (.bool (takenF l0 F k c))∧w'=w:=by
 have HR0:=Aside0.mk hr0;have hn0:l0.length≤9223372036854775807:=hr0.2.1;have HU:=Aside0.mk hU;have Hbl:=Aside0.mk hbl;have Hall:=Aside0.mk hall;have Hk:=Aside0.mk hk;have Hwf:=Aside0.mk hwf;have hbl1:bs.length≤l0.length:=by omega
 have hbl2:l0.length≤bs.length:=by omega
 clear hr0 hU hbl hall hk hwf;go_enter Tryd.func56,Tryd.ntmps56
 go_wp2
 go_loopg [13] l0.length (fun gg s13 wr=> ∃i:Nat,i≤l0.length∧l0.length - i≤gg∧s13= .int .i64 i∧wr=w∧Aside0 (∀j,j< i→((l0.getD j []).getD k false && F j c)=false))
 case atStart=>exact⟨0,Nat.zero_le _,by omega,rfl,rfl,⟨fun j hj=>absurd hj (by omega)⟩⟩
 case round=>
  obtain⟨i,hi,hg,rfl,rfl,HA⟩:=hrel;by_cases hlt:i< l0.length
  ·have hltz:(i:Int)< (l0.length:Int):=by omega
   have hltb:(i:Int)< (bs.length:Int):=by omega
   obtain⟨ad,c2,e0,hcl,hK,hc0'⟩:=Kd.C_get HR0.out ([] :List Bool) (i:Int) (by omega) (by omega);subst e0;obtain⟨A2,c2,rfl,hl2,hr2⟩:=hK;have hx:l0.getD (Int.toNat i) [] =l0[i] :=by simp[hlt]
   have hx':l0.getD i [] =l0[i] :=by simp[hlt]
   rw[hx]at hc0' hl2 hr2;have hcell:wr.cell? (ad.add i)=some (.slice A2 l0[i].length c2):=by
    have:=hc0' 0 _ rfl
    simpa [Kd.slice]using this
   have hkr:k< l0[i].length:=Hk.out _ (List.getElem_mem _);have hkrz:(k:Int)< (l0[i].length:Int):=by omega
   obtain⟨row,hrow⟩: ∃row,row=l0[i] :=⟨_,rfl⟩;rw[←hrow]at hcell hkr hkrz hr2 hx';obtain⟨ad2,e2,hx2⟩:=Kd.at_bool hr2 (k:Int) (by omega) (by omega);subst e2;simp only[rdOf,Int.toNat_natCast]at hx2;obtain⟨b,hb⟩:=Hall.out i (by omega);have hcb:=HU.out.cell hb;have hlook:=(HU.out.at_ i b hb).2.look c Hwf.out;obtain⟨bk,hbk⟩: ∃bk,bk=row.getD k false:=⟨_,rfl⟩;rw[←hbk]at hx2;obtain⟨f,hf⟩: ∃f,f=F i c:=⟨_,rfl⟩;rw[←hf]at hlook;have hfi:((l0.getD i []).getD k false && F i c)=(bk && f):=by rw[hx',hbk,hf]
   have Hfi:=Aside0.mk hfi;clear hc0' hl2 hr2 hx hcl hrow hx' hb hfi hbk hf;cases bk with
   |false=>
    clear hlook hcb;go_wp2_with fail
    go_roundg (l0.length - (i+1))
    case measure=>omega
    case rel=>
     refine⟨i+1,by omega,by omega,by go_num,rfl,⟨fun j hj=>?_⟩⟩;by_cases e:j=i
     ·subst e;rw[Hfi.out];rfl
     ·exact HA.out j (by omega)
   |true=>
    cases f with
    |true=>
     go_wp2_with fail
     go_ret;have hrr:takenF l0 F k c=true:=List.any_eq_true.2 ⟨i,List.mem_range.2 hlt,by rw[Hfi.out];rfl⟩;exact⟨by rw[hrr];rfl,rfl⟩
    |false=>
     go_wp2_with fail
     go_roundg (l0.length - (i+1))
     case measure=>omega
     case rel=>
      refine⟨i+1,by omega,by omega,by go_num,rfl,⟨fun j hj=>?_⟩⟩;by_cases e:j=i
      ·subst e;rw[Hfi.out];rfl
      ·exact HA.out j (by omega)
  ·have hltz: ¬ (i:Int)< (l0.length:Int):=by omega
   have:i=l0.length:=by omega
   subst this;go_wp2_with fail
   go_ret;have hrr:takenF l0 F k c=false:=List.any_eq_false.2 (fun j hj=>by rw[HA.out j (List.mem_range.1 hj)];decide);exact⟨by rw[hrr];rfl,rfl⟩
def colPick(p:List (List Bool))(out:List Int):Nat→Int→Option Int
 |0,_=>none
 |n+1,c=>if takenF p (fun r=>seenAt (p.getD r []) out out.length) out.length c=true then colPick p out n (c+1)else some c
def colGo(p:List (List Bool)):Nat→List Int→Option (List Int)
 |0,out=>some out
 |n+1,out=>(colPick p out (out.length+1) 0).bind fun c=>colGo p n (out++ [c])
def sparse_colours.f(l0:List (List Bool))(a1:Int):Option (List Int):=if(decide (l0.length≤1000000) && decide (a1≤1000000) && l0.all (fun row=>decide (a1≤row.length)))=true then colGo l0 a1.toNat []else none
theorem seenAt_app(row:List Bool)(out:List Int)(c x:Int):seenAt row (out++ [c]) (out.length+1) x=(seenAt row out out.length x|| (row.getD out.length false && (c==x))):=by
 rw[seenAt_succ];have e:(out++ [c]).getD out.length 0=c:=by simp
 rw[e]
 congr 1
 unfold seenAt;have hk: ∀k,k≤out.length→((List.range k).any fun j=>row.getD j false && ((out++ [c]).getD j 0==x))=((List.range k).any fun j=>row.getD j false && (out.getD j 0==x)):=by
  intro k
  induction k with
  |zero=>intro _;rfl
  |succ k ih=>
   intro hk;rw[List.range_succ,List.any_append,List.any_append,ih (by omega)];simp[List.getElem?_append_left (show k< out.length by omega)]
 exact hk _ (Nat.le_refl _)
theorem sparse_colours.info:(Tryd.prog.info? 102).map (fun i=>(i.zero,i.size,i.bytes))=some (some (.map none),1,8):=by kernel_rfl
theorem sparse_colours.calls(A0:Option Addr)(c0:Nat)(l0:List (List Bool))(a1:Int)(r:List Int)(w:World)(hr0:Kd.C (Kd.slice 4 Kd.bool) w A0 l0.length l0)(hc0:l0.length≤c0)(h:sparse_colours.f l0 a1=some r):
  Calls Tryd.prog 37 #[.slice A0 l0.length c0,.int .i64 a1] w fun e w'=> ∃v0_:Value,e= .returned (v0_)∧Kd.R (Kd.int .i64) 3 w' w.heap.size (fun _=>True) v0_ r∧Below w.heap.size w w':=by
 have HR0:=Aside0.mk hr0;clear hr0 hc0;unfold sparse_colours.f at h;split at h
 case isFalse=>cases h
 case isTrue hok=>
 simp only[Bool.and_eq_true,decide_eq_true_eq]at hok;obtain⟨⟨hp1,ha1⟩,hrows⟩:=hok;have HL:=Aside0.mk (List.all_eq_true.1 hrows);have H0:=Aside0.mk h;clear hrows h;have hmm:= @run_makeMap Tryd.prog;go_enter Tryd.func37,Tryd.ntmps37
 go_wp2_with (refine gD 14 ?_;refine Kd.R_make mapK _ 102 rfl (N:=14) rfl 101 _ _ rfl (l0.length:Int) rfl rfl Tryd.underlying101 (.map none) 8 sparse_colours.info rfl (by decide) (by omega) none (ok:=fun _=>True) (okp:=fun _=>True) rfl (fun _ hk=>hk) trivial (by omega) (by omega) (Below.refl _ _) (Nat.le_refl _) ?_;intro v1 w1 ho hb _ hnew;have ho2:=Kd.own_of_R ho;rw[List.length_replicate,Int.toNat_natCast]at ho2;obtain⟨g,cap,rfl⟩:=slice_form ho2 (hnew.imp fun b h=>h.1);have HO:=Aside0.mk ho2;have HB:=Aside0.mk hb;clear ho ho2 hb hnew)
 go_loopg [17] l0.length (fun gg s17 wr=> ∃ (i:Nat) (bs:List (Option Nat)),i≤l0.length∧l0.length - i≤gg∧s17= .int .i64 i∧Aside0 (Below w.heap.size w wr)∧Aside0 (Used wr w.heap.size g cap bs 0 (fun _ _=>false))∧Aside0 (bs.length=l0.length)∧Aside0 (∀q,q< i→ ∃b,bs[q]? =some (some b))∧Aside0 (∀q,i≤q→q< l0.length→bs[q]? =some none))
 case atStart=>
  refine⟨0,List.replicate l0.length none,Nat.zero_le _,by omega,rfl,HB,⟨⟨by simpa using HO.out,fun q b hq=>?_,fun q q' b hq=>?_⟩⟩,⟨by simp⟩,⟨fun q hq=>absurd hq (by omega)⟩,⟨fun q _ hq=>by simp[hq]⟩⟩;all_goals
   rw[List.getElem?_replicate]at hq;split at hq<;>cases hq
 case round=>
  obtain⟨i,bs,hi,hg,rfl,HB1,HU,Hbl,Hmade,Hnone⟩:=hrel;by_cases hlt:i< l0.length
  ·have hltz:(i:Int)< (l0.length:Int):=by omega
   have hbl:bs.length=l0.length:=Hbl.out;have hU1:=HU.out.same (SameBut.alloc wr (.map #[] 0));have hcf:=own_at_of (d:=none) hU1.row (i:Int) (by omega) (by omega);have e1:rdOf none bs (i:Int)=none:=by simp[rdOf,List.getD_eq_getElem?_getD,Hnone.out i (Nat.le_refl _) hlt]
   rw[e1,Int.toNat_natCast]at hcf;obtain⟨hc1,hf1⟩:=hcf;clear hU1 e1 hbl;go_wp2_with fail
   go_roundg (l0.length - (i+1))
   case measure=>omega
   case rel=>
    refine⟨i+1,bs.set i (some wr.heap.size),by omega,by omega,by go_num,⟨?_⟩,⟨HU.out.make HB1.out.size i⟩,⟨by rw[List.length_set];exact Hbl.out⟩,⟨fun q hq=>?_⟩,⟨fun q hq hq2=>?_⟩⟩
    ·obtain⟨c,hcb⟩:=HU.out.blk;exact(HB1.out.alloc HB1.out.size _).setCell (HU.out.row.lt g (by simp[Value.ownBlock])).1 _
    ·by_cases e:q=i
     ·subst e;exact⟨wr.heap.size,by rw[List.getElem?_set_self (by rw[Hbl.out];exact hlt)]⟩
     ·rw[List.getElem?_set_ne (Ne.symm e)];exact Hmade.out q (by omega)
    ·rw[List.getElem?_set_ne (by omega)];exact Hnone.out q (by omega) hq2
  ·have hltz: ¬ (i:Int)< (l0.length:Int):=by omega
   have:i=l0.length:=by omega
   subst this;have HU1:Aside0 (Used wr w.heap.size g cap bs 0 (fun q=>seenAt (l0.getD q []) [] 0)):=⟨HU.out.congr (fun q x _=>rfl)⟩;clear hmm HU Hnone HO HB;go_wp2_with fail
   go_loopg [5,26] a1.toNat (fun gg s5 s26 wr=> ∃ (k cnt:Nat) (out:List Int),k≤a1.toNat∧a1.toNat - k≤gg∧cnt≤k * 1000000∧s26= .int .i64 k∧Aside0 (Kd.R (Kd.int .i64) 3 wr w.heap.size (fun _=>True) s5 out)∧Aside0 (Below w.heap.size w wr)∧Aside0 (Used wr w.heap.size g cap bs cnt (fun q=>seenAt (l0.getD q []) out k))∧Aside0 (out.length=k)∧Aside0 (colGo l0 (a1.toNat - k) out=some r))
   case atStart=>exact⟨0,0,[],Nat.zero_le _,by omega,by omega,rfl,⟨Kd.R_nil _ _ _ _ _⟩,HB1,HU1,⟨rfl⟩,H0⟩
   case round=>
    clear H0 HU1 HB1;obtain⟨k,cnt,out,hk,hgk,hcnt,rfl,HO,HB,HU,Hol,HG⟩:=hrel;by_cases hkt:k< a1.toNat
    ·have hktz:(k:Int)< a1:=by omega
     have hrk: ∀row,row∈l0→k< row.length:=fun row hrow=>by
      have:=of_decide_eq_true (HL.out row hrow)
      omega
     have Hrk:=Aside0.mk hrk;clear hrk;obtain⟨n,hn⟩: ∃n,a1.toNat - k=n+1:=⟨a1.toNat - k - 1,by omega⟩;have hG:=HG.out;rw[hn,colGo,Hol.out]at hG;have HP:=Aside0.mk hG;have Hn:=Aside0.mk hn;clear hG HG hn;obtain⟨wo,hwo⟩: ∃wo:World,wo=wr:=⟨_,rfl⟩;subst hwo;go_wp2_with fail
     go_loopg [9] (k+1) (fun gg s9 wr=> ∃ (c:Int) (m:Nat),wr=wo∧m≤gg∧0≤c∧c+m=k+1∧s9= .int .i64 c∧Aside0 ((colPick l0 out m c).bind (fun c=>colGo l0 n (out++ [c]))=some r))
     case atStart=>exact⟨0,k+1,rfl,Nat.le_refl _,by omega,by omega,rfl,HP⟩
     case round=>
      clear HP;obtain⟨c,m,rfl,hm,hc0,hcm,rfl,HP⟩:=hrel;have hwf:(Lit.int .i64 c).wf=true:=WalkArith.wf_i64 (by omega);have hT:=sparse_taken.calls A0 c0 l0 w.heap.size g cap cnt bs _ k c wr (Kd.C_below HR0.out HB.out) HU.out Hbl.out (fun q hq=>Hmade.out q (by rw[←Hbl.out];exact hq)) Hrk.out hwf;rw[Hbl.out]at hT;have HT:=Aside0.mk hT;have Hwf:=Aside0.mk hwf;clear hT hwf;cases m with
      |zero=>exact absurd HP.out (by simp[colPick])
      |succ m=>
       have hP:=HP.out;rw[colPick,Hol.out]at hP;obtain⟨tk,htk⟩: ∃tk,tk=takenF l0 (fun q=>seenAt (l0.getD q []) out k) k c:=⟨_,rfl⟩;rw[←htk]at hP HT;have HP:=Aside0.mk hP;clear hP htk;cases tk with
       |true=>
        have hP:=HP.out;rw[if_pos rfl]at hP;have HP:=Aside0.mk hP;clear hP;go_wp2_with fail
        refine HT.out.mono ?_;rintro e w' ⟨rfl,rfl⟩;go_wp2_with fail
        go_roundg m
        case measure=>omega
        case rel=>exact⟨c+1,m,rfl,Nat.le_refl _,by omega,by omega,by go_num,HP⟩
       |false=>
        have hP:=HP.out;rw[if_neg (by decide),Option.bind_some]at hP;have HP:=Aside0.mk hP;clear hP;go_wp2_with fail
        refine HT.out.mono ?_;rintro e w' ⟨rfl,rfl⟩;go_wp2_with fail
        clear HT;go_loopg [38] l0.length (fun gg s38 wr=> ∃ (i cn:Nat),i≤l0.length∧l0.length - i≤gg∧cn≤cnt+i∧s38= .int .i64 i∧Aside0 (Kd.R (Kd.int .i64) 3 wr w.heap.size (fun _=>True) u5 out)∧Aside0 (Below w.heap.size w wr)∧Aside0 (Used wr w.heap.size g cap bs cn (fun q x=>if q< i∧(l0.getD q []).getD k false=true∧x=c then true else seenAt (l0.getD q []) out k x)))
        case atStart=>exact⟨0,cnt,Nat.zero_le _,by omega,by omega,rfl,HO,HB,⟨HU.out.congr (fun q x _=>by rw[if_neg (by omega)])⟩⟩
        case round=>
         clear HO HB HU;obtain⟨i,cn,hi,hgi,hcn,rfl,HO,HB,HU⟩:=hrel;by_cases hlt:i< l0.length
         ·have hltz:(i:Int)< (l0.length:Int):=by omega
          obtain⟨ad,c2,e0,hcl,hK,hc0'⟩:=Kd.C_get (Kd.C_below HR0.out HB.out) ([] :List Bool) (i:Int) (by omega) (by omega);subst e0;obtain⟨A2,c2,rfl,hl2,hr2⟩:=hK;have hx:l0.getD (Int.toNat i) [] =l0[i] :=by simp[hlt]
          have hx':l0.getD i [] =l0[i] :=by simp[hlt]
          rw[hx]at hc0' hl2 hr2;have hcell:wr.cell? (ad.add i)=some (.slice A2 l0[i].length c2):=by
           have:=hc0' 0 _ rfl
           simpa [Kd.slice]using this
          have hkr:k< l0[i].length:=Hrk.out _ (List.getElem_mem _);have hkrz:(k:Int)< (l0[i].length:Int):=by omega
          obtain⟨row,hrow⟩: ∃row,row=l0[i] :=⟨_,rfl⟩;rw[←hrow]at hcell hkr hkrz hr2 hx';obtain⟨ad2,e2,hx2⟩:=Kd.at_bool hr2 (k:Int) (by omega) (by omega);subst e2;simp only[rdOf,Int.toNat_natCast]at hx2;have hbl:bs.length=l0.length:=Hbl.out;obtain⟨b,hb⟩:=Hmade.out i (by omega);have hcb:=HU.out.cell hb;have Hb:=Aside0.mk hb;obtain⟨bk,hbk⟩: ∃bk,bk=row.getD k false:=⟨_,rfl⟩;rw[←hbk]at hx2;have Hbk:Aside0 ((l0.getD i []).getD k false=bk):=⟨by rw[hx',hbk]⟩;clear hc0' hl2 hr2 hx hcl hrow hx' hb hbk hbl;cases bk with
          |false=>
           clear hcb;go_wp2_with fail
           go_roundg (l0.length - (i+1))
           case measure=>omega
           case rel=>
            refine⟨i+1,cn,by omega,by omega,by omega,by go_num,HO,HB,⟨HU.out.congr (fun q x _=>?_)⟩⟩;by_cases e:q=i
            ·subst e;rw[if_neg (by omega),if_neg (by rw[Hbk.out];simp)]
            ·by_cases h2:q< i
             ·simp[h2,show q< i+1 by omega]
             ·simp[h2,show¬q< i+1 by omega]
          |true=>
           go_wp2_with (at_mapUpdate;(refine wpList_intset_put _ rfl _ _ _ rfl b cn _ rfl (HU.out.at_ i b Hb.out).2 (by unfold maxLen;omega) c true rfl rfl Hwf.out ?_);intro w1 hs1 hg1;have HS1:=Aside0.mk hs1;have HG1:=Aside0.mk hg1;clear hs1 hg1)
           go_roundg (l0.length - (i+1))
           case measure=>omega
           case rel=>
            refine⟨i+1,cn+1,by omega,by omega,by omega,by go_num,⟨ints_kept HO.out (Used.set_blk (HU.out.at_ i b Hb.out).2) HG1.out⟩,⟨HB.out.grown HG1.out HB.out.size (fun b' hb'=>by cases hb';exact(HU.out.at_ i b Hb.out).1)⟩,⟨(HU.out.put Hb.out c HS1.out HG1.out).congr (fun q x _=>?_)⟩⟩;by_cases e:q=i
            ·subst e;by_cases ex:x=c
             ·rw[if_pos ⟨rfl,ex⟩,if_pos ⟨by omega,Hbk.out,ex⟩]
             ·rw[if_neg (fun h=>ex h.2),if_neg (fun h=>ex h.2.2),if_neg (fun h=>ex h.2.2)]
            ·rw[if_neg (fun h=>e h.1)];by_cases h2:q< i
             ·simp[h2,show q< i+1 by omega]
             ·simp[h2,show¬q< i+1 by omega]
         ·have hltz: ¬ (i:Int)< (l0.length:Int):=by omega
          have:i=l0.length:=by omega
          subst this;have hol:out.length≤1000000:=by have:=Hol.out;omega
          go_wp2_with ((with_reducible refine gate_builtin (b:= .append) (xs:= #[.tmp 53,.tmp 55]) rfl ?_);at_builtin;refine Kd.R_append (Kd.int .i64) (w0:=w) w.heap.size rfl (.tmp 53) (.tmp 55) 23 3 (.int .i64 0) 8 rfl Tryd.underlying23 info3 rfl (by decide) (by omega) u5 out c [.int .i64 c] (fun _=>True) (fun _=>False) rfl rfl ?aP (fun _ hk=>hk.elim) ?aF ?aO ?aB ?aS ?aL ?_;(case aP=>exact rfl);(case aB=>exact HB.out);(case aF=>exact(fun _ _=>trivial));(case aO=>exact HO.out);(case aS=>exact HB.out.size);(case aL=>omega);intro v2 w2 ho2 hb2 hg2 _;have HO2:=Aside0.mk ho2;have HB2:=Aside0.mk hb2;have HG2:=Aside0.mk hg2;clear ho2 hb2 hg2)
          go_roundg (a1.toNat - (k+1))
          case measure=>have:=Hn.out;omega
          case rel=>
           refine⟨k+1,cn,out++ [c],by omega,by omega,by omega,by go_num,HO2,HB2,⟨(HU.out.same (SameBut.of_grown HG2.out (fun q hq=>own_typed (Kd.own_of_R HO.out) q hq))).congr (fun q x hq=>?_)⟩,⟨by rw[List.length_append,Hol.out];rfl⟩,⟨by rw[show a1.toNat - (k+1)=n by have:=Hn.out;omega];exact HP.out⟩⟩;have hbl:bs.length=l0.length:=Hbl.out;have ho:=Hol.out;subst ho;rw[seenAt_app];by_cases ex:x=c
           ·subst ex;cases hrow:(l0.getD q []).getD out.length false<;>simp[hrow,show q< l0.length by omega]
           ·have:(c==x)=false:=beq_eq_false_iff_ne.2 (Ne.symm ex)
            rw[this,if_neg (fun h=>ex h.2.2)];simp
    ·have hktz: ¬ (k:Int)< a1:=by omega
     have:k=a1.toNat:=by omega
     subst this;rw[Nat.sub_self]at HG;have hout:out=r:=Option.some.inj HG.out;subst hout;go_wp2_with fail
     go_ret;exact⟨_,rfl,HO.out,HB.out⟩
end
def sparse_Colours.f(l0:List (List Bool))(a1:Int):Option (List Int×Int):=(sparse_form.f l0 a1).bind fun t232=>(if t232=0 then((sparse_colours.f l0 a1).bind fun t233=>(some (t233,0)))else(some (([] :List Int),t232)))
theorem sparse_Colours.calls(A0:Option Addr)(c0:Nat)(l0:List (List Bool))(a1:Int)(r1:List Int)(r2:Int)(w:World)(hr0:Kd.C (Kd.slice 4 Kd.bool) w A0 l0.length l0)(hc0:l0.length≤c0)(h:sparse_Colours.f l0 a1=some (r1,r2)):
  Calls Tryd.prog 17 #[.slice A0 l0.length c0,.int .i64 a1] w fun e w'=> ∃v0_:Value,e= .returned (.tuple #[v0_,.int .i64 r2])∧Kd.R (Kd.int .i64) 3 w' w.heap.size (fun _=>True) v0_ r1∧Below w.heap.size w w':=by
 have HR0:=Aside0.mk hr0;have HC0:=Aside0.mk hc0;clear hr0 hc0;have HB:=Aside0.mk (Below.refl w.heap.size w);have H:=h;clear h;unfold sparse_Colours.f at H;obtain⟨t232,A3,H⟩:=bO H;(try dsimp only at H);by_cases c4:t232=0
 ·rw[if_pos c4]at H;have c4b0:=beq_iff_eq.mpr c4;have c4b1:=bne_eq_false_iff_eq.mpr c4;clear c4;obtain⟨t233,A5,H⟩:=bO H;(try dsimp only at H);simp only[Option.some.injEq,Prod.mk.injEq]at H;obtain⟨rfl,rfl⟩:=H;go_enter Tryd.func17,Tryd.ntmps17
  go_wp2_with (first| (refine gF 36 ?_;refine gl_ (some 9) Tryd.func36 #[.slice A0 l0.length c0,.int .i64 a1] ?_;(with_reducible refine(sparse_form.calls _ _ l0 a1 t232 _ (cQ (HR0.out)) HC0.out A3.out).mono ?_);rintro e w6 ⟨rfl,hb⟩;refine⟨_,rfl,?_⟩;replace HB:=Aside0.mk (below_step bQ hb);(try clear hb);(try clear hb2);(try clear hk);(try clear hi)) | (refine gF 37 ?_;refine gl_ (some 15) Tryd.func37 #[.slice A0 l0.length c0,.int .i64 a1] ?_;(with_reducible refine(sparse_colours.calls _ _ l0 a1 t233 _ (cbQ HR0 HB) HC0.out A5.out).mono ?_);rintro e w7 ⟨v234,rfl,ho0,hb⟩;refine⟨_,rfl,?_⟩;have HO235:=rL w ho0;replace HB:=hsQ hb;(try clear hb);(try clear hb2);(try clear hk);(try clear hi);(try clear ho0)))
  go_ret2;exact⟨_,eQ,rX (h:=HO235.out),bQ⟩
 ·rw[if_neg c4]at H;have c4b0:=beq_eq_false_iff_ne.mpr c4;have c4b1:=bne_iff_ne.mpr c4;simp only[Option.some.injEq,Prod.mk.injEq]at H;obtain⟨rfl,rfl⟩:=H;go_enter Tryd.func17,Tryd.ntmps17
  go_wp2_with (first| (refine gF 36 ?_;refine gl_ (some 9) Tryd.func36 #[.slice A0 l0.length c0,.int .i64 a1] ?_;(with_reducible refine(sparse_form.calls _ _ l0 a1 t232 _ (cQ (HR0.out)) HC0.out A3.out).mono ?_);rintro e w8 ⟨rfl,hb⟩;refine⟨_,rfl,?_⟩;replace HB:=Aside0.mk (below_step bQ hb);(try clear hb);(try clear hb2);(try clear hk);(try clear hi)))
  go_ret2;exact⟨(.slice none 0 0),eQ,by first|exact Kd.R_nil _ _ _ _ _|exact Kd.N_nil _ _ _ _ _|exact Kd.V_nil _ _ _ _ _|exact Kd.Q_nil _ _ _ _ _|exact Kd.S_nil _ _ _ _ _,bQ⟩
def fluxionlaw19_sample.f:Option ((List (List Bool))):=some (([(([true,true,false,false] :List Bool)),(([false,true,true,false] :List Bool)),(([false,false,true,true] :List Bool))] :List (List Bool)))
theorem fluxionlaw19_sample.calls(r:List (List Bool))(w:World)(h:fluxionlaw19_sample.f=some r):
  Calls Tryd.prog 18 #[] w fun e w'=> ∃v0_:Value,e= .returned (v0_)∧Kd.N (Kd.slice 4 Kd.bool) 38 w' w.heap.size (fun k_=>(w.heap.size≤k_)) v0_ r∧Below w.heap.size w w':=by
 have HB:=Aside0.mk (Below.refl w.heap.size w);have H:(some (([(([true,true,false,false] :List Bool)),(([false,true,true,false] :List Bool)),(([false,false,true,true] :List Bool))] :List (List Bool))))=some r:=h;clear h;obtain⟨y236,hy236⟩: ∃y_:List Bool,y_=(([true,true,false,false] :List Bool)):=⟨_,rfl⟩;(first|replace H:=by_ hy236 H|rw[←hy236]at H);(try dsimp only at H);have Ny236:=Aside0.mk hy236;clear hy236;obtain⟨y239,hy239⟩: ∃y_:List Bool,y_=(([false,true,true,false] :List Bool)):=⟨_,rfl⟩;(first|replace H:=by_ hy239 H|rw[←hy239]at H);(try dsimp only at H);have Ny239:=Aside0.mk hy239;clear hy239;obtain⟨y242,hy242⟩: ∃y_:List Bool,y_=(([false,false,true,true] :List Bool)):=⟨_,rfl⟩;(first|replace H:=by_ hy242 H|rw[←hy242]at H);(try dsimp only at H);have Ny242:=Aside0.mk hy242;clear hy242;obtain⟨y245,hy245⟩: ∃y_:List (List Bool),y_=(([y236,y239,y242] :List (List Bool))):=⟨_,rfl⟩;(first|replace H:=by_ hy245 H|rw[←hy245]at H);(try dsimp only at H);have Ny245:=Aside0.mk hy245;clear hy245;obtain rfl:=Option.some.inj H;go_enter Tryd.func18,Tryd.ntmps18
 go_wp2_with (first| (refine gD 1 ?_;refine li_ Kd.bool 4 1 ([true,true,false,false] :List Bool) [.bool true,.bool true,.bool false,.bool false] (Reps.one (show Kd.M Kd.bool _ _ _ true [.bool true]from rfl) (Reps.one (show Kd.M Kd.bool _ _ _ true [.bool true]from rfl) (Reps.one (show Kd.M Kd.bool _ _ _ false [.bool false]from rfl) (Reps.one (show Kd.M Kd.bool _ _ _ false [.bool false]from rfl) (Reps.none _ _))))) ?_;intro v237 w1 ho2 hb hg_ hnew_;clear hg_ hnew_;(first|rw[←Ny236.out]at ho2| (simp only[Int.reduceToNat]at ho2;rw[←Ny236.out]at ho2));have HO238:=Aside0.mk (Kd.R_lower (Kd.R_newM (M:=fun k_=>(w.heap.size≤k_)) ho2 (below_size bQ) (fun k_ h_=>h_)) (below_size bQ));replace HB:=hsQ hb;clear hb ho2) | (refine gD 2 ?_;refine li_ Kd.bool 4 2 ([false,true,true,false] :List Bool) [.bool false,.bool true,.bool true,.bool false] (Reps.one (show Kd.M Kd.bool _ _ _ false [.bool false]from rfl) (Reps.one (show Kd.M Kd.bool _ _ _ true [.bool true]from rfl) (Reps.one (show Kd.M Kd.bool _ _ _ true [.bool true]from rfl) (Reps.one (show Kd.M Kd.bool _ _ _ false [.bool false]from rfl) (Reps.none _ _))))) ?_;intro v240 w3 ho4 hb hg_ hnew_;clear hg_ hnew_;(first|rw[←Ny239.out]at ho4| (simp only[Int.reduceToNat]at ho4;rw[←Ny239.out]at ho4));have HO241:=Aside0.mk (Kd.R_lower (Kd.R_new' (Kd.R_newM (M:=fun k_=>(w.heap.size≤k_)) ho4 (below_size bQ) (fun k_ h_=>h_)) (Kd.R_lt (pRQ HO238.out))) (below_size bQ));replace HO238:=Aside0.mk (Kd.R_elder' (pRQ HO238.out) (Kd.R_base ho4) hb);replace HB:=hsQ hb;clear hb ho4) | (refine gD 3 ?_;refine li_ Kd.bool 4 3 ([false,false,true,true] :List Bool) [.bool false,.bool false,.bool true,.bool true] (Reps.one (show Kd.M Kd.bool _ _ _ false [.bool false]from rfl) (Reps.one (show Kd.M Kd.bool _ _ _ false [.bool false]from rfl) (Reps.one (show Kd.M Kd.bool _ _ _ true [.bool true]from rfl) (Reps.one (show Kd.M Kd.bool _ _ _ true [.bool true]from rfl) (Reps.none _ _))))) ?_;intro v243 w5 ho6 hb hg_ hnew_;clear hg_ hnew_;(first|rw[←Ny242.out]at ho6| (simp only[Int.reduceToNat]at ho6;rw[←Ny242.out]at ho6));have HO244:=Aside0.mk (Kd.R_lower (Kd.R_new' (Kd.R_new' (Kd.R_newM (M:=fun k_=>(w.heap.size≤k_)) ho6 (below_size bQ) (fun k_ h_=>h_)) (Kd.R_lt (pRQ HO238.out))) (Kd.R_lt (pRQ HO241.out))) (below_size bQ));replace HO238:=Aside0.mk (Kd.R_elder' (pRQ HO238.out) (Kd.R_base ho6) hb);replace HO241:=Aside0.mk (Kd.R_elder' (pRQ HO241.out) (Kd.R_base ho6) hb);replace HB:=hsQ hb;clear hb ho6;obtain⟨Ao7,co7,eo7⟩:=Kd.R_slice HO238.out;subst eo7;obtain⟨Ao8,co8,eo8⟩:=Kd.R_slice HO241.out;subst eo8;obtain⟨Ao9,co9,eo9⟩:=Kd.R_slice HO244.out;subst eo9) | (refine gD 4 ?_;refine Kd.N_lit (Kd.slice 4 Kd.bool) _ 38 ?hg (N':=4) ?hd (xs:=([y236,y239,y242] :List (List Bool))) (inner:= [.slice Ao7 y236.length co7,.slice Ao8 y239.length co8,.slice Ao9 y242.length co9]) (ok:=(fun k_=>(w.heap.size≤k_))) (okp:=(fun k_=>(w.heap.size≤k_))) ?hr ?hp (fun _ hk=>hk) ((show∀k_,w5.heap.size≤k_→(fun k_=>(w.heap.size≤k_)) k_ from fun k_ hk=>(Nat.le_trans (below_size bQ) hk)) _ (Nat.le_refl _)) (Below.refl _ _) (Nat.le_refl _) (by simp) ?_;(case hd=>rfl);(case hg=>rfl);(case hr=>first| (go_simp;done) | (go_simp;rfl));(case hp=>exact(Reps.one (show Kd.FK (Kd.slice 4 Kd.bool) _ _ y236 [.slice Ao7 y236.length co7]from(Kd.FK_slice_mk (Kd.R_reads' (Kd.R_mono (ok':=(fun k_=>(w.heap.size≤k_))) (HO238.out) (fun k_ hk=>hk.1.1.1))).2.1 (Kd.R_F (Kd.R_mono (ok':=(fun k_=>(w.heap.size≤k_))) (HO238.out) (fun k_ hk=>hk.1.1.1))))) (Reps.one (show Kd.FK (Kd.slice 4 Kd.bool) _ _ y239 [.slice Ao8 y239.length co8]from(Kd.FK_slice_mk (Kd.R_reads' (Kd.R_mono (ok':=(fun k_=>(w.heap.size≤k_))) (HO241.out) (fun k_ hk=>hk.1.1.1))).2.1 (Kd.R_F (Kd.R_mono (ok':=(fun k_=>(w.heap.size≤k_))) (HO241.out) (fun k_ hk=>hk.1.1.1))))) (Reps.one (show Kd.FK (Kd.slice 4 Kd.bool) _ _ y242 [.slice Ao9 y242.length co9]from(Kd.FK_slice_mk (Kd.R_reads' (Kd.R_mono (ok':=(fun k_=>(w.heap.size≤k_))) (HO244.out) (fun k_ hk=>hk.1.1.1))).2.1 (Kd.R_F (Kd.R_mono (ok':=(fun k_=>(w.heap.size≤k_))) (HO244.out) (fun k_ hk=>hk.1.1.1))))) (Reps.none _ _)))));intro v246 w10 ho11 hb hg_ hnew_;clear hg_ hnew_;(first|rw[←Ny245.out]at ho11| (simp only[Int.reduceToNat]at ho11;rw[←Ny245.out]at ho11));have HO247:=Aside0.mk (Kd.N_lower ho11 (below_size bQ));replace HB:=hsQ hb;clear HO238 HO241 HO244;clear hb ho11))
 go_ret;exact⟨_,eQ,nX (h:=HO247.out),bQ⟩
end Go.Proofs.YtjjbondlcjnaiaaDoor.PSparseJoined
