-- written by a program of this session, after the kit's print
import Derived.Test.YtjjbondlcjnaiaaDoorPSparseJoinedx7
namespace Go.Proofs.YtjjbondlcjnaiaaDoor.PSparseJoined
open Go.RowKit Go.Proofs.YtjjbondlcjnaiaaDoorW.PrintWords Go.Proofs.YtjjbondlcjnaiaaDoorW.PrintLast Go.Proofs.YtjjbondlcjnaiaaDoorW.PrintMore
set_option maxHeartbeats 8000000
set_option maxRecDepth 100000
attribute [local go_sem] max2_int min2_int max_two min_two max_three min_three max_four min_four
set_option linter.unusedVariables false
set_option linter.unusedSimpArgs false
def sparse_set_with.l0:Nat→List Int→List Int→Int→Int→Option (List Int)
 |0,_,_,_,_=>none
 |k+1,x0,x6,x7,x8=>if x8< x7 then(if 0≤x8 then(if x8< (x6.length:Int)then(if x8< (x0.length:Int)then(sparse_set_with.l0 k (x0.set (x8:Int).toNat (Go.bits .or .u64 (rd x0 x8) (rd x6 x8))) x6 x7 (wrap64 (x8+1)))else(none))else(none))else(none))else(some x0)
def sparse_set_with.f(k:Nat)(l0:List Int)(l1:List Int):Option (List Int):=sparse_set_with.l0 k l0 l1 (l1.length:Int) 0
theorem sparse_set_with.calls(k:Nat)(P0_:Nat→Prop)(u9000_:Value)(l0:List Int)(A1:Option Addr)(c1:Nat)(l1:List Int)(r:List Int)(w0 w:World)(hB:Below w0.heap.size w0 w)(ho0:Kd.R (Kd.int .u64) 87 w w0.heap.size P0_ u9000_ l0)(hr1: ∀W_,Kept w W_ (fun k_=>P0_ k_)→Kd.C (Kd.int .u64) W_ A1 l1.length l1)(hc1:l1.length≤c1)(h:sparse_set_with.f k l0 l1=some r):
  Calls Tryd.prog 50 #[u9000_,.slice A1 l1.length c1] w fun e w'=>e= .returned (.tuple #[])∧Kd.R (Kd.int .u64) 87 w' w0.heap.size (fun k_=>(P0_ k_∨w.heap.size≤k_)) u9000_ r∧Below w0.heap.size w0 w'∧Kept w w' (fun k_=>P0_ k_):=by
 have HO0:=Aside0.mk (show Kd.R (Kd.int .u64) 87 w w0.heap.size (fun k_=>(P0_ k_∨w.heap.size≤k_)) u9000_ l0 from Kd.R_mono ho0 (fun k_ hk=>(.inl hk)));have HR1:=Aside0.mk hr1;have HC1:=Aside0.mk hc1;clear hr1 hc1;have HK:=Aside0.mk (Kept.refl w (fun k_=>P0_ k_));have HW0:=Aside0.mk hB.size;have HB:=Aside0.mk hB;clear hB;have H:=h;clear h;unfold sparse_set_with.f at H;have H':=Aside0.mk H;clear H;go_enter Tryd.func50,Tryd.ntmps50
 go_wp2
 go_loopg [8] k (fun kq v8 w'=> ∃ (x0_1:List Int) (x8_1:Int),v8= .int .i64 x8_1∧Aside0 (sparse_set_with.l0 kq x0_1 l1 (l1.length:Int) x8_1=some r)∧Aside0 (kq≤k)∧Aside0 (Kd.R (Kd.int .u64) 87 w' w0.heap.size (fun k_=>(P0_ k_∨w.heap.size≤k_)) u9000_ x0_1)∧Aside0 (Kept w w' (fun k_=>P0_ k_))∧Aside0 (Below w0.heap.size w0 w'))
 case atStart=>exact⟨(l0),(0),eS,H',⟨Nat.le_refl _⟩,⟨rX (h:=HO0.out)⟩,⟨by repeat(first| (with_reducible first|exact HK.out|apply Kept.alloc|apply Kept.drewN|apply Kept.drew) |exact HK.out)⟩,⟨bQ⟩⟩
 case round=>
  clear H';(try clear c1);(try clear p2);obtain⟨x0_1,x8_1,rfl,HA,HK1,HO_0,HK,HB⟩:=hrel;cases gk with
  |zero=>exact absurd HA.out (by simp[sparse_set_with.l0])
  |succ k1=>
   have H:=HA.out;clear HA;simp only[sparse_set_with.l0]at H;by_cases c3:x8_1< (l1.length:Int)
   ·rw[if_pos c3]at H;have c3b0:=decide_eq_true c3;clear c3;replace H:=iN H;obtain⟨c4,H⟩:=H;have c4b0:=decide_eq_true c4;clear c4;replace H:=iN H;obtain⟨c5,H⟩:=H;have c5b0:=decide_eq_true c5;clear c5;replace H:=iN H;obtain⟨c6,H⟩:=H;have c6b0:=decide_eq_true c6;clear c6;obtain⟨y230,hy230⟩: ∃y_:List Int,y_=(x0_1.set (x8_1:Int).toNat (Go.bits .or .u64 (rd x0_1 x8_1) (rd l1 x8_1))):=⟨_,rfl⟩;(first|replace H:=by_ hy230 H|rw[←hy230]at H);(try dsimp only at H);have Ny230:=Aside0.mk hy230;clear hy230;have H':=Aside0.mk H;clear H;have p228:0≤(x8_1:Int):=dQ;have q228:x8_1< (l1.length:Int):=dQ;obtain⟨ad228,e228,hx228_0⟩:=Kd.at_int (Kd.C_kept_now HR1.out HK.out) x8_1 p228 q228;cases e228;replace p228:=eq_true p228;replace q228:=eq_true q228;obtain⟨Ao8,co8,eo8⟩:=Kd.R_slice HO_0.out;subst eo8;have p229:0≤(x8_1:Int):=dQ;have q229:x8_1< (x0_1.length:Int):=dQ;obtain⟨ad229,e229,hx229_0⟩:=Kd.at_int (Kd.R_reads' HO_0.out).2.2 x8_1 p229 q229;cases e229;replace p229:=eq_true p229;replace q229:=eq_true q229;have p7:0≤(x8_1:Int):=dQ;have q7:(x8_1:Int)< ((x0_1.length:Int):Int):=dQ;obtain⟨go7,co7,eo7,gb7,gl7,cl7,HG7⟩:=Kd.R_form HO_0.out (by omega);(first|cases eo7| (injection eo7 with ea_ en_ ec_;(first|subst ea_| (injection ea_ with ea_;subst ea_));subst ec_;clear en_));have GB7:=Aside0.mk gb7;have GG7:=Aside0.mk HG7;clear gb7 gl7 HG7;have HMgo7:=Aside0.mk (show(P0_ go7∨w.heap.size≤go7)from(HO_0.out.1 _ rfl));(first|simp only[add_plain]at hx229_0|skip);obtain⟨hx7_0,hf7_0⟩:=Kd.R_celln 0 HO_0.out (x8_1:Int) p7 q7;replace p7:=eq_true p7;replace q7:=eq_true q7;have HP9:=Kd.R_putg HO_0.out (x8_1:Int) (Go.bits .or .u64 (rd x0_1 x8_1) (rd l1 x8_1));go_wp2_with (first| ((with_reducible refine gate_store (t:=87) (p:=19) rfl ?_);refine store_event (t:=87) (p:=19) (v:=?vo_w10) (w1:=(wr.setCell ⟨go7,(x8_1:Int).toNat,none⟩ (.int .u64 (Go.bits .or .u64 (rd x0_1 x8_1) (rd l1 x8_1))))) ?hg ?ho ?hn ?hr ?_;(case ho=>rfl);(case hg=>rfl);(case hn=>rfl);(case hr=>first| (go_simp;done) | (go_simp;rfl));intro w10 hw;have hg:wr.grownBy w10 (some go7):=(by rw[hw];exact HP9.2);have hp_:Kd.R (Kd.int .u64) 87 w10 w0.heap.size (fun k_=>(P0_ k_∨w.heap.size≤k_)) (.slice (some ⟨go7,0,none⟩) x0_1.length co8) y230:=(by rw[hw,Ny230.out];exact HP9.1);clear HP9;have n_:=aI (hp_) (aI ((by rw[hw];exact below_set (HB.out) GB7.out:Below w0.heap.size w0 w10)) (Aside0.mk (Kept.of_grown (S:=(fun k_=>P0_ k_)) hg (by repeat(first| (with_reducible first|exact HK.out|apply Kept.alloc|apply Kept.drewN|apply Kept.drew) |exact HK.out)) (fun k_ e_=>(HO_0.out.1 k_ e_)))));clear HO_0 HB HK;obtain⟨HO_0,HB,HK⟩:=n_;clear hg hw hp_))
    go_roundg k1
    case measure=>have:=HK1.out;omega
    case rel=>exact⟨(y230),(wrap64 (x8_1+1)),eS,H',⟨by have:=HK1.out;omega⟩,⟨rX (h:=HO_0.out)⟩,⟨by repeat(first| (with_reducible first|exact HK.out|apply Kept.alloc|apply Kept.drewN|apply Kept.drew) |exact HK.out)⟩,⟨bQ⟩⟩
   ·rw[if_neg c3]at H;have c3b0:=decide_eq_false c3;clear c3;obtain rfl:=Option.some.inj H;go_wp2
    first|go_end0| ((try simp only[Exit.inBlock,Exit.then]);refine bodyPost_ret (results_none rfl _ _ _) rfl ?_)
    exact⟨eQ,rX (h:=HO_0.out),bQ,by repeat(first| (with_reducible first|exact HK.out|apply Kept.alloc|apply Kept.drewN|apply Kept.drew) |exact HK.out)⟩
structure DepAt (W:World) (base g cap H0 m:Nat) (cs:List Value) (done:List (List Int)):Prop where
 row:W.ownsRow base 76 1 (.slice (some ⟨g,0,none⟩) m cap) m (encs (fun v:Value=>v) cs)
 hg:g< H0
 hw:H0≤W.heap.size
 len:cs.length=m
 old: ∀ (j:Nat) (x:List Int),done[j]? =some x→ ∃A c,cs[j]? =some (.slice A x.length c)∧x.length≤c∧Kd.F (Kd.int .u64) W (fun k=>(base≤k∧k< H0)∧k≠g) A x.length x
section
variable {W W1:World} {base g cap H0 m:Nat} {cs:List Value} {done:List (List Int)}
theorem DepAt.ge(h:DepAt W base g cap H0 m cs done):base≤g:=(h.row.lt g (by simp[Value.ownBlock])).1
theorem DepAt.step(h:DepAt W base g cap H0 m cs done)(hm: ∀k,base≤k→k< H0→W1.heap[k]? =W.heap[k]?)(hs:H0≤W1.heap.size):DepAt W1 base g cap H0 m cs done:=by
 refine⟨own_move h.row (fun k hk=>?_),h.hg,hs,h.len,fun j x hx=>?_⟩
 ·have e:g=k:=by simpa [Value.ownBlock]using hk
  subst e;exact hm g h.ge h.hg
 ·obtain⟨A,c,h1,h2,h3⟩:=h.old j x hx;exact⟨A,c,h1,h2,Kd.F_step h3 (fun k hk _=>hm k hk.1.1 hk.1.2)⟩
theorem DepAt.below(h:DepAt W base g cap H0 m cs done)(hb:Below W.heap.size W W1):DepAt W1 base g cap H0 m cs done:=h.step (fun k _ hk=>hb.block k (Nat.lt_of_lt_of_le hk h.hw)) (Nat.le_trans h.hw hb.size)
theorem DepAt.cell(h:DepAt W base g cap H0 m cs done){j:Nat}{u:Value}(hj:cs[j]? =some u):W.cell? ⟨g,j,none⟩=some u∧W.frozen? ⟨g,j,none⟩=false:=by
 have hlt:=(List.getElem?_eq_some_iff.1 hj).1;have h1:=own_at_of (d:=Value.bool false) h.row (j:Int) (by omega) (by have:=h.len;omega);rw[Int.toNat_natCast]at h1;have e:rdOf (Value.bool false) cs (j:Int)=u:=by simp[rdOf,List.getD_eq_getElem?_getD,hj]
 rw[e]at h1;exact h1
theorem DepAt.put(h:DepAt W base g cap H0 m cs done){i:Nat}(hi:done.length≤i)(v:Value):DepAt (W.setCell ⟨g,i,none⟩ v) base g cap H0 m (cs.set i v) done:=by
 obtain⟨h2,h3⟩:=own_store_of h.row (i:Int) v;rw[Int.toNat_natCast]at h2 h3;refine⟨h2,h.hg,Nat.le_trans h.hw h3.size,by rw[List.length_set];exact h.len,fun j x hx=>?_⟩;obtain⟨A,c,h4,h5,h6⟩:=h.old j x hx;have hj:=(List.getElem?_eq_some_iff.1 hx).1;exact⟨A,c,by rw[List.getElem?_set_ne (by omega)];exact h4,h5,Kd.F_step h6 (fun k hk _=>Below.heap_setCell _ _ _ k hk.2)⟩
theorem DepAt.next(h:DepAt W base g cap H0 m cs done){i b1:Nat}(hi:done.length=i){ok:Nat→Prop}{v:Value}{row:List Int}(hv:cs[i]? =some v)(hR:Kd.R (Kd.int .u64) 87 W b1 ok v row)(hok: ∀k,ok k→H0≤k):DepAt W base g cap W.heap.size m cs (done++ [row]):=by
 have hge:=h.ge;have hgh:=h.hg;have hwh:=h.hw;refine⟨h.row,Nat.lt_of_lt_of_le h.hg h.hw,Nat.le_refl _,h.len,fun j x hx=>?_⟩;have hj:j< i+1:=by have:=(List.getElem?_eq_some_iff.1 hx).1;rw[List.length_append,hi]at this;exact this
 by_cases e:j=i
 ·subst e;rw[List.getElem?_append_right (by omega),hi,Nat.sub_self]at hx;have hx':row=x:=by simpa using hx
  subst hx';obtain⟨A,c,rfl⟩:=Kd.R_slice hR;exact⟨A,c,hv,(Kd.R_reads' hR).2.1,Kd.F_mono (Kd.F_bound (Kd.R_F hR)) (fun k hk=>⟨⟨by have:=hok k hk.1;omega,hk.2⟩,by have:=hok k hk.1;omega⟩)⟩
 ·rw[List.getElem?_append_left (by omega)]at hx;obtain⟨A,c,h4,h5,h6⟩:=h.old j x hx;exact⟨A,c,h4,h5,Kd.F_mono h6 (fun k hk=>⟨⟨hk.1.1,by omega⟩,hk.2⟩)⟩
theorem DepAt.start{v:Value}{b:Nat}(h:Kd.R (Kd.slice 87 (Kd.int .u64)) 76 W base (fun _=>True) v (List.replicate m []))(hb:v.ownBlock=some b): ∃g cap cs,v= .slice (some ⟨g,0,none⟩) m cap∧DepAt W base g cap W.heap.size m cs [] :=by
 obtain⟨_,inner,ho,_⟩:=h;rw[List.length_replicate]at ho;have ho2:=ho;rcases ho.2 with ⟨rfl,_⟩ | ⟨g,cap,cur,rfl,_⟩
 ·simp[Value.ownBlock]at hb
 ·refine⟨g,cap,inner,rfl,?_,(ho2.lt g (by simp[Value.ownBlock])).2,Nat.le_refl _,?_,fun j x hx=>by simp at hx⟩
  ·have e:encs (fun v:Value=>v) inner=inner:=by simp[encs]
   rw[e];exact ho2
  ·have:=ho2.1
   simpa [show(Kd.slice 87 (Kd.int .u64)).sz=1 from rfl]using this
end
theorem depW{x:Int}(h: -9223372036854775808≤x∧x≤9223372036854775807):wrap64 x=x:=by unfold wrap64;omega
def wordsOf(n0:Int):Int:=wrap64 (wrap64 (Int.tdiv n0 64) +1)
def depFirst(N:Nat)(n0 i:Int):Option (List Int):=
 if i< n0 then(if 0≤wrap64 (Int.tdiv i 64)∧wrap64 (Int.tdiv i 64)< (N:Int)∧0≤Int.tmod i 64∧Int.tmod i 64≤63 then some ((List.replicate N (0:Int)).set (wrap64 (Int.tdiv i 64)).toNat (Go.bits .or .u64 (rdOf 0 (List.replicate N (0:Int)) (wrap64 (Int.tdiv i 64))) (IntKind.u64.wrap ((2:Int) ^ (Int.tmod i 64).toNat))))else none)else some (List.replicate N 0)
def depWith(k:Nat)(done:List (List Int)):List Int→List Int→Option (List Int)
 | [],row=>some row
 |p::ps,row=>if 0≤p∧p< (done.length:Int)then(sparse_set_with.f k row (done.getD p.toNat [])).bind fun row'=>depWith k done ps row' else none
def depSteps(k:Nat)(n0:Int):List S44→Nat→List (List Int)→Option (List (List Int))
 | [],_,done=>some done
 |s::ss,i,done=>(trace_Parts.f s.f0 s.f1 s.f2).bind fun ps=>(depFirst (wordsOf n0).toNat n0 i).bind fun row0=>(depWith k done ps row0).bind fun row=>depSteps k n0 ss (i+1) (done++ [row])
def sparse_depends.f(k:Nat)(n0:Int)(ss:List S44)(os:List Int):Option (List (List Int)):=
 if 0≤wordsOf n0∧(wordsOf n0).toNat≤1000000∧ss.length≤1000000∧os.length≤1000000 then(depSteps k n0 ss 0 []).bind fun l=>if os.all (fun o=>decide (0≤o) && decide (o< (l.length:Int)))=true then some (os.map fun o=>l.getD o.toNat [])else none else none
theorem infoS_:(Tryd.prog.info? 76).map (fun i=>(i.zero,i.size,i.bytes))=some (some (.slice none 0 0),1,24):=by kernel_rfl
theorem infoU_:(Tryd.prog.info? 87).map (fun i=>(i.zero,i.size,i.bytes))=some (some (.int .u64 0),1,8):=by kernel_rfl
theorem sparse_depends.calls(k:Nat)(n0:Int)(A1:Option Addr)(c1:Nat)(ss:List S44)(A2:Option Addr)(c2:Nat)(os:List Int)(r:List (List Int))(w:World)(hG:HasT w)(hr1:Kd.C k44 w A1 ss.length ss)(hc1:ss.length≤c1)(hr2:Kd.C (Kd.int .i64) w A2 os.length os)(hc2:os.length≤c2)(h:sparse_depends.f k n0 ss os=some r):
  Calls Tryd.prog 32 #[.agg #[.int .i64 n0,.slice A1 ss.length c1,.slice A2 os.length c2]] w fun e w'=> ∃v0_:Value,e= .returned (v0_)∧Kd.N (Kd.slice 87 (Kd.int .u64)) 76 w' w.heap.size (fun k_=>w.heap.size≤k_) v0_ r∧Below w.heap.size w w':=by
 have HR1:=Aside0.mk (And.intro hr1 hc1);have HR2:=Aside0.mk (And.intro hr2 hc2);have hn1:ss.length≤9223372036854775807:=hr1.2.1;have hn2:os.length≤9223372036854775807:=hr2.2.1;have HG:=Aside0.mk hG;have hu44:=Tryd.underlying44;have hu25:=Tryd.underlying25;unfold sparse_depends.f at h;obtain⟨hlim,h⟩:=iN h;replace h:=bO h;obtain⟨l,HL,h⟩:=h;obtain⟨hos,h⟩:=iN h;obtain rfl:=Option.some.inj h;have HOS:=Aside0.mk hos;obtain⟨hw0,hw1,hls,hlo⟩:=hlim;have HW0:=Aside0.mk (And.intro hw0 hw1);clear hw0 hw1;clear h hos hG hr1 hr2 hc1 hc2;go_enter Tryd.func32,Tryd.ntmps32
 go_upto_block 0 with (first
  | ((with_reducible refine gD 1 ?_);refine bx_ 1 #[.int .i64 n0,.slice A1 ss.length c1,.slice A2 os.length c2] 25 ?_;intro g1 hg w1 hbox hb;have K1:=Aside0.mk hbox;have HB:=Aside0.mk hb;clear hg hbox hb;obtain⟨y1,_,y2,_,y3,_⟩:=c3Q K1.out)
  | ((with_reducible refine gD 14 ?_);refine Kd.R_make (Kd.slice 87 (Kd.int .u64)) (w0:=w1) w1.heap.size 76 rfl (N:=14) rfl 73 _ _ rfl (ss.length:Int) rfl rfl Tryd.underlying73 (.slice none 0 0) 24 infoS_ rfl (by decide) (by omega) [] (ok:=fun _=>True) (okp:=fun _=>True) ⟨_,rfl,Kd.R_nil _ _ _ _ _⟩ (fun _ hk=>hk) trivial (by omega) (by omega) (Below.refl _ _) (Nat.le_refl _) ?_;intro v14 w2 ho hb hg_ hnew_;have HO:=Aside0.mk ho;have HB2:=Aside0.mk hb;have HNW:=Aside0.mk hnew_;replace y1:=cE hb y1;replace y2:=cE hb y2;replace y3:=cE hb y3;clear ho hb hg_ hnew_))
 obtain⟨b14,hb14,_⟩:=HNW.out;have hO:=HO.out;rw[Int.toNat_natCast]at hO;obtain⟨g,cap,cs,rfl,hD⟩:=DepAt.start hO hb14;have HD:=Aside0.mk hD;have K2:=Aside0.mk (blk_below K1.out HB2.out);have hg1:g1< w1.heap.size:=blk_lt K1.out;have hg1g:g1≠g:=Nat.ne_of_lt (Nat.lt_of_lt_of_le hg1 hD.ge);have HB2w:=Aside0.mk (below_step HB.out HB2.out);clear hO hD hb14 HNW HO y1 y2 y3;go_wp2
 go_loopg [18] ss.length (fun gg v18 wr=> ∃ (i:Nat) (z:Int) (cs:List Value) (done:List (List Int)),i≤ss.length∧ss.length - i≤gg∧v18= .int .i64 z∧done.length=i∧Aside0 (z=(i:Int))∧Aside0 (depSteps k n0 (ss.drop i) i done=some l)∧Aside0 (DepAt wr w1.heap.size g cap wr.heap.size ss.length cs done)∧Aside0 (Below w.heap.size w wr)∧Aside0 (wr.heap[g1]? =some (.cells #[.int .i64 n0,.slice A1 ss.length c1,.slice A2 os.length c2] 25 (0,0))))
 case atStart=>exact⟨0,0,cs,[],Nat.zero_le _,by omega,rfl,rfl,⟨rfl⟩,HL,HD,HB2w,K2⟩
 case round=>
 clear HL HD HB2 HB2w K2 K1;obtain⟨i,z,cs,done,hi,hgi,rfl,hdl,HZ,HL,HD,HBw,K1⟩:=hrel;obtain⟨wr0,hwr0⟩: ∃wr0:World,wr0=wr:=⟨_,rfl⟩;subst hwr0;by_cases hlt:i< ss.length
 ·have hltz:z< (ss.length:Int):=by have:=HZ.out;omega
  have hz0:0≤z:=by have:=HZ.out;omega
  have HZN:=Aside0.mk (by have:=HZ.out;omega:z.toNat=i);obtain⟨ad,A5,c5,A6,c6,e0,x0,x1,x2,x3,x4,x5,x6,l5,q5,l6,q6⟩:=at_T44 (Kd.C_below HR1.out.1 HBw.out) z hz0 hltz;subst e0;have hx:rd_T44 ss z=ss[i] :=by unfold rd_T44;rw[HZN.out];simp[hlt]
  obtain⟨s,hs⟩: ∃s,s=ss[i] :=⟨_,rfl⟩;rw[hx,←hs]at x0 x1 x2 x3 x4 x5 x6 l5 q5 l6 q6;have hd:ss.drop i=s::ss.drop (i+1):=by rw[hs];exact List.drop_eq_getElem_cons hlt
  have hL:=HL.out;rw[hd,depSteps]at hL;obtain⟨ps,HP,hL⟩:=bO hL;obtain⟨row0,HF0,hL⟩:=bO hL;obtain⟨row,HW,hL⟩:=bO hL;have HL':=Aside0.mk hL;rw[←HZ.out]at HF0;have HF:=HF0;have HPS:=HP;have HWI:=HW;clear HF0 HP HW;clear hL HL hd hs hx l5 q5 l6 q6;go_upto_region 5 with ((with_reducible refine gD 5 ?_);refine bx_ 5 #[.int .i64 0,.int .i64 0,.int .i64 0,.int .i64 0,.bool false,.slice none 0 0,.slice none 0 0] 44 ?_;intro g5 hg w5 hbox hb;have G5:=Aside0.mk (show wr0.heap.size≤g5 by rw[hg];exact Nat.le_refl _);have K5:=Aside0.mk hbox;have HB5:=Aside0.mk hb;clear hg hbox hb;obtain⟨z1,z2,z3,z4,z5,z6,z7⟩:=c7Q K5.out;obtain⟨f1,f2,f3,f4,f5,f6,f7⟩:=c7Z K5.out)
  generalize hq_:World.setCell (World.setCell (World.setCell (World.setCell (World.setCell (World.setCell (World.setCell w5 ⟨g5,0,none⟩ (.int .i64 s.f0)) ⟨g5,1,none⟩ (.int .i64 s.f1)) ⟨g5,2,none⟩ (.int .i64 s.f2)) ⟨g5,3,none⟩ (.int .i64 s.f3.f0)) ⟨g5,4,none⟩ (.bool s.f3.f1)) ⟨g5,5,none⟩ (.slice A5 s.f3.f2.length c5)) ⟨g5,6,none⟩ (.slice A6 s.f3.f3.length c6)=w6;have K6:=Aside0.mk (hq_▸blk7 K5.out (.int .i64 s.f0) (.int .i64 s.f1) (.int .i64 s.f2) (.int .i64 s.f3.f0) (.bool s.f3.f1) (.slice A5 s.f3.f2.length c5) (.slice A6 s.f3.f3.length c6):w6.heap[g5]? =some (.cells #[.int .i64 s.f0,.int .i64 s.f1,.int .i64 s.f2,.int .i64 s.f3.f0,.bool s.f3.f1,.slice A5 s.f3.f2.length c5,.slice A6 s.f3.f3.length c6] 44 (0,0)));have HB6r:=Aside0.mk (hq_▸below7 HB5.out G5.out (.int .i64 s.f0) (.int .i64 s.f1) (.int .i64 s.f2) (.int .i64 s.f3.f0) (.bool s.f3.f1) (.slice A5 s.f3.f2.length c5) (.slice A6 s.f3.f3.length c6):Below wr0.heap.size wr0 w6);clear hq_ K5 HB5 x0 x1 x2 x3 x4 x5 x6 z1 z2 z3 z4 z5 z6 z7 f1 f2 f3 f4 f5 f6 f7;have HB6:=Aside0.mk (below_step HBw.out HB6r.out);have K16:=Aside0.mk (blk_below K1.out HB6r.out);have HD6:=Aside0.mk (DepAt.below HD.out HB6r.out);have hcl:i< cs.length:=by rw[HD.out.len];exact hlt
  obtain⟨y1,y1z,y2,y2z,y3,y3z⟩:=c3Q K16.out;obtain⟨uc,huc⟩: ∃u,cs[i]? =some u:=⟨_,List.getElem?_eq_getElem hcl⟩;have HUC:=Aside0.mk huc;clear huc hcl;obtain⟨yc,ycz⟩:=HD6.out.cell HUC.out;rw[←HZN.out]at yc ycz;go_upto_region 6 with ((with_reducible refine gD 29 ?_);refine Kd.R_make (Kd.int .u64) (w0:=w6) w6.heap.size 87 rfl (N:=29) rfl 76 _ _ rfl (wrap64 (wrap64 (Int.tdiv n0 64) +1)) rfl rfl Tryd.underlying76 (.int .u64 0) 8 infoU_ rfl (by decide) (by omega) 0 (ok:=fun _=>True) (okp:=fun _=>True) rfl (fun _ hk=>hk) trivial HW0.out.1 (Nat.le_trans (Nat.mul_le_mul_right 8 HW0.out.2) (by decide)) (Below.refl _ _) (Nat.le_refl _) ?_;intro v29 w7 ho hb hg_ hnew_;have HO:=Aside0.mk ho;have HB7:=Aside0.mk hb;have HNW:=Aside0.mk hnew_;replace yc:=cE hb yc;clear ycz;have ycz:=((HD6.out.below hb).cell HUC.out).2;rw[←HZN.out]at ycz;replace y1:=cE hb y1;obtain⟨A29,c29,rfl⟩:=Kd.R_slice ho;clear ho hb hg_ hnew_)
  obtain⟨b29,hb29,hb29s⟩:=HNW.out;obtain⟨ad29,rfl⟩: ∃x,A29=some x:=by cases A29 with|none=>simp[Value.ownBlock]at hb29|some x=>exact⟨x,rfl⟩
  obtain⟨g29,rfl⟩:=Kd.R_head HO.out;have eg29:g29=b29:=by simpa [Value.ownBlock]using hb29
  subst eg29;clear hb29 HNW;generalize hNN:(wrap64 (wrap64 (Int.tdiv n0 64) +1)).toNat=N at HO ⊢;have HNN:=Aside0.mk hNN;clear hNN;have HS6:wr0.heap.size≤w6.heap.size:=HB6r.out.size;generalize hq_:World.setCell w7 ⟨g,z.toNat,none⟩ (.slice (some ⟨g29,0,none⟩) N c29)=w8;have hg0:w1.heap.size≤g:=HD.out.ge;have hgr:g< wr0.heap.size:=HD.out.hg;have HD8:=Aside0.mk (hq_▸HZN.out▸DepAt.put (DepAt.below HD6.out HB7.out) (i:=i) (by omega) (.slice (some ⟨g29,0,none⟩) N c29):DepAt w8 w1.heap.size g cap wr0.heap.size ss.length (cs.set i (.slice (some ⟨g29,0,none⟩) N c29)) done);have hg15:g≠g5:=Nat.ne_of_lt (Nat.lt_of_lt_of_le hgr G5.out);have HB8:=Aside0.mk (hq_▸below_set (below_step HB6.out HB7.out) (Nat.le_trans HB.out.size hg0):Below w.heap.size w w8);have K18:=Aside0.mk (show w8.heap[g1]? =some (.cells #[.int .i64 n0,.slice (some ad) ss.length c1,.slice A2 os.length c2] 25 (0,0))from by rw[←hq_,Below.heap_setCell _ _ _ _ hg1g];exact blk_below K16.out HB7.out);have K58:=Aside0.mk (show w8.heap[g5]? =some (.cells #[.int .i64 s.f0,.int .i64 s.f1,.int .i64 s.f2,.int .i64 s.f3.f0,.bool s.f3.f1,.slice A5 s.f3.f2.length c5,.slice A6 s.f3.f3.length c6] 44 (0,0))from by rw[←hq_,Below.heap_setCell _ _ _ _ (Ne.symm hg15)];exact blk_below K6.out HB7.out);have HR8:=Aside0.mk (show Kd.R (Kd.int .u64) 87 w8 w6.heap.size (fun _=>True) (.slice (some ⟨g29,0,none⟩) N c29) (List.replicate N (0:Int))from by
   have h1:=HO.out;rw[List.length_replicate]at h1;rw[←hq_];exact Kd.R_mono (Kd.R_step (Kd.R_bound h1) (fun k hk _=>Below.heap_setCell _ _ _ k (by have:=hk.2.1;show k≠g;omega))) (fun _ _=>trivial))
  have HS8:w6.heap.size≤w8.heap.size:=Nat.le_trans HB7.out.size (by rw[←hq_];exact Nat.le_of_eq (World.size_setCell _ _ _).symm);have hg5:g5< w6.heap.size:=blk_lt K6.out;clear hq_ HD6 HB7 HB6r HB6 K16 K6 HO yc ycz y1 y1z y2 y2z y3 y3z;have hr29:g29< w8.heap.size:=Kd.R_lt HR8.out g29 rfl;have hg29:w6.heap.size≤g29:=hb29s;clear hb29s;have K18':=c3Q K18.out;obtain⟨y1,y1z,y2,y2z,y3,y3z⟩:=K18';have hiV:(cs.set i (.slice (some ⟨g29,0,none⟩) N c29))[i]? =some (.slice (some ⟨g29,0,none⟩) N c29):=by rw[List.getElem?_set_self (by rw[HD.out.len];exact hlt)]
  have HIV:=Aside0.mk hiV;clear hiV;obtain⟨yi,yiz⟩:=HD8.out.cell HIV.out;rw[←HZN.out]at yi yiz;go_upto_if 34 with fail
  go_cut []from 34 to 47 (fun wx=>Aside0 (Below w.heap.size w wx)∧Aside0 (w8.heap.size≤wx.heap.size)∧Aside0 (wx.heap[g1]? =w8.heap[g1]?)∧Aside0 (wx.heap[g5]? =w8.heap[g5]?)∧Aside0 (DepAt wx w1.heap.size g cap wr0.heap.size ss.length (cs.set i (.slice (some ⟨g29,0,none⟩) N c29)) done)∧Aside0 (Kd.R (Kd.int .u64) 87 wx w6.heap.size (fun _=>True) (.slice (some ⟨g29,0,none⟩) N c29) row0))
  case first=>
   have h:depFirst (wrap64 (wrap64 (Int.tdiv n0 64) +1)).toNat n0 z=some row0:=HF.out;rw[HNN.out]at h;simp only[depFirst]at h;by_cases hzn:z< n0
   ·rw[if_pos hzn]at h;obtain⟨hj0,h⟩:=iN h;obtain⟨j0,j1,j2,j3⟩:=hj0;obtain rfl:=Option.some.inj h;clear h;obtain⟨ji,hji⟩: ∃j,wrap64 (Int.tdiv z 64)=j:=⟨_,rfl⟩;rw[hji]at j0 j1;have hjiw:IntKind.i64.wrap (Int.tdiv z 64)=ji:=(i64_w _).trans hji;have hc:=Kd.R_celln 0 HR8.out ji j0 j1;obtain⟨jm,hjm⟩: ∃j,Int.tmod z 64=j:=⟨_,rfl⟩;rw[hjm]at j2 j3;obtain⟨d1,d2⟩:=hc;have HJI:=Aside0.mk hji;clear hji;go_upto_region 7 with fail
    refine wp_region_still_tail 13 (by kernel_rfl) (by kernel_rfl) ?_;simp only[List.take_succ_cons,List.take_zero,List.drop_succ_cons,List.drop_zero]
    iterate 13 (refine wpStill_step (fun K hK=>?_);go_simp;refine hK _ ?_;clear hK K)
    refine wpStill_nil ?_;go_wp2_with fail
    go_meet
    exact⟨⟨below_drew1 (below_set HB8.out (by have:=HB.out.size;omega))⟩,⟨Nat.le_of_eq (World.size_setCell _ _ _).symm⟩,⟨Below.heap_setCell _ _ _ _ (by show g1≠g29;omega)⟩,⟨Below.heap_setCell _ _ _ _ (by show g5≠g29;omega)⟩,⟨DepAt.step HD8.out (fun k _ hk=>Below.heap_setCell _ _ _ _ (by show k≠g29;omega)) (Nat.le_trans HD8.out.hw (Nat.le_of_eq (World.size_setCell _ _ _).symm))⟩,⟨by rw[HJI.out,hjm];exact Kd.R_drew (Kd.R_putn HR8.out ji _)⟩⟩
   ·rw[if_neg hzn]at h;go_wp2_with fail
    go_meet
    obtain rfl:=Option.some.inj h;exact⟨⟨HB8.out⟩,⟨Nat.le_refl _⟩,⟨rfl⟩,⟨rfl⟩,⟨HD8.out⟩,⟨HR8.out⟩⟩
  case rest=>
  obtain⟨HBc,HSc,HKc1,HKc5,HDc,HRc⟩:=hcut;have K1c:=Aside0.mk (HKc1.out.trans K18.out);have K5c:=Aside0.mk (HKc5.out.trans K58.out);clear HKc1 HKc5 K18 K58 y1 y1z y2 y2z y3 y3z yi yiz HD8 HR8 HB8;obtain⟨z1,z2,z3,z4,z5,z6,z7⟩:=c7Q K5c.out;obtain⟨y1,y1z,y2,y2z,y3,y3z⟩:=c3Q K1c.out;go_upto_block 2 with (go_at_call 49;(with_reducible refine(trace_Parts.calls s.f0 s.f1 s.f2 s.f3.f0 s.f3.f1 _ _ ps _ (HG.out.below HBc.out) HPS.out).mono ?_);rintro e_ w9 ⟨v9,rfl,ho,hb⟩;have HB9:=Aside0.mk hb;obtain⟨A9,c9,e9⟩:=Kd.R_slice ho;subst e9;have HO9:=Aside0.mk ho;clear ho hb)
  have HBw9:=Aside0.mk (below_step HBc.out HB9.out);have HD9:=Aside0.mk (DepAt.below HDc.out HB9.out);have hc29:g29< wc.heap.size:=Kd.R_lt HRc.out g29 rfl;have HSw6:w.heap.size≤w6.heap.size:=by have:=HB.out.size;omega
  have HR9:=Aside0.mk (Kd.R_mono (Kd.R_lower (Kd.R_below (Kd.R_tight rfl HRc.out) HB9.out) HSw6) (fun k hk=>by simpa [Value.ownBlock]using hk):Kd.R (Kd.int .u64) 87 w9 w.heap.size (fun k=>k=g29) (.slice (some ⟨g29,0,none⟩) N c29) row0);have HC9:=Aside0.mk (Kd.C_kept_own (S:=fun k=>k=g29) (Kd.R_bound HO9.out) (fun k hk=>by have:=hk.2.1;show¬k=g29;omega));have hc9:ps.length≤c9:=(Kd.R_reads' HO9.out).2.1;have hp9:ps.length≤9223372036854775807:=(HC9.out _ (Kept.refl _ _)).2.1;have K19:=Aside0.mk (blk_below K1c.out HB9.out);have hg1c:g1< w9.heap.size:=blk_lt K19.out;have hg1n:g1≠g29:=by omega
  clear z1 z2 z3 z4 z5 z6 z7 y1 y1z y2 y2z y3 y3z HBc HSc HDc HRc K1c K5c;have HQL:=Aside0.mk (by rw[List.drop_zero];exact HWI.out:depWith k done (ps.drop 0) row0=some row);go_wp2
  go_loopg [51] ps.length (fun gg v51 wq=> ∃ (q:Nat) (zq:Int) (row1:List Int),q≤ps.length∧ps.length - q≤gg∧v51= .int .i64 zq∧Aside0 (zq=(q:Int))∧Aside0 (depWith k done (ps.drop q) row1=some row)∧Aside0 (Below w.heap.size w wq)∧Aside0 (Kept w9 wq (fun k=>k=g29))∧Aside0 (DepAt wq w1.heap.size g cap wr0.heap.size ss.length (cs.set i (.slice (some ⟨g29,0,none⟩) N c29)) done)∧Aside0 (Kd.R (Kd.int .u64) 87 wq w.heap.size (fun k=>k=g29) (.slice (some ⟨g29,0,none⟩) N c29) row1))
  case atStart=>exact⟨0,0,row0,Nat.zero_le _,by omega,rfl,⟨rfl⟩,HQL,HBw9,⟨Kept.refl _ _⟩,HD9,HR9⟩
  case round=>
  obtain⟨q,zq,row1,hq,hgq,rfl,HZQ,HWQ,HBq,HKq,HDq,HRq⟩:=hrel;clear HQL HBw9 HD9 HR9;by_cases hqt:q< ps.length
  ·have hqz:zq< (ps.length:Int):=by have:=HZQ.out;omega
   have hq0:0≤zq:=by have:=HZQ.out;omega
   have HZT:=Aside0.mk (by have:=HZQ.out;omega:zq.toNat=q);obtain⟨ad9,e9,x9⟩:=Kd.at_int (HC9.out _ HKq.out) zq hq0 hqz;subst e9;have hrd:rd ps zq=ps[q] :=by unfold rd;rw[HZT.out];simp[hqt]
   obtain⟨p,hp⟩: ∃p,p=ps[q] :=⟨_,rfl⟩;rw[hrd,←hp]at x9;have hd9:ps.drop q=p::ps.drop (q+1):=by rw[hp];exact List.drop_eq_getElem_cons hqt
   have hwl:=HWQ.out;rw[hd9,depWith]at hwl;obtain⟨hpp,hwl⟩:=iN hwl;obtain⟨row2,HW2,hwl⟩:=bO hwl;have HWL:=Aside0.mk hwl;clear hwl HWQ hd9 hp hrd;obtain⟨hp0,hp1⟩:=hpp;have hps:p< (ss.length:Int):=by omega
   have hpt:p.toNat< done.length:=by omega
   obtain⟨xp,hxp⟩: ∃x,x=done.getD p.toNat [] :=⟨_,rfl⟩;rw[←hxp]at HW2;obtain⟨Ap,cp,hv,hcp,hF⟩:=HDq.out.old p.toNat xp (by rw[hxp,List.getD_eq_getElem?_getD,List.getElem?_eq_getElem hpt];rfl);have HFP:=Aside0.mk hF;have hxm:xp.length≤9223372036854775807:=Kd.F_max hF;obtain⟨yp,ypz⟩:=HDq.out.cell hv;obtain⟨yi,yiz⟩:=HDq.out.cell HIV.out;rw[←HZN.out]at yi yiz;have HCP:=Aside0.mk hcp;clear hF hv hcp hxp;go_upto_region 11 with fail
   refine wp_region_still_tail 8 (by kernel_rfl) (by kernel_rfl) ?_;simp only[List.take_succ_cons,List.take_zero,List.drop_succ_cons,List.drop_zero]
   iterate 8 (refine wpStill_step (fun K hK=>?_);go_simp;refine hK _ ?_;clear hK K)
   refine wpStill_nil ?_;change wpList _ _ _ _ _ wr.drew;have hq1:wrap64 (zq+1)=zq+1:=depW ⟨by omega,by omega⟩;go_wp2_with (go_at_call 50;(with_reducible refine(sparse_set_with.calls k (fun k=>k=g29) (.slice (some ⟨g29,0,none⟩) N c29) row1 Ap cp xp row2 w _ (below_drew1 HBq.out) (Kd.R_drew HRq.out) (fun W_ hk=>Kd.F_now (Kd.F_kept (Kd.F_drew HFP.out) hk (fun k hk2=>by have:=hk2.1.2;omega))) HCP.out HW2.out).mono ?_);rintro e_ w11 ⟨rfl,hR,hb,hk⟩;have HR11:=Aside0.mk hR;have HB11:=Aside0.mk hb;have HK11:=Aside0.mk hk;clear hR hb hk)
   go_roundg (ps.length - (q+1))
   case measure=>omega
   case rel=>exact⟨q+1,zq+1,row2,hqt,Nat.le_refl _,by first|rfl| (rw[hq1]),⟨by have:=HZQ.out;omega⟩,HWL,HB11,⟨HKq.out.drew.then_ HK11.out (fun k hk=> .inl hk)⟩,⟨DepAt.step (HDq.out) (fun k _ hk=>HK11.out.2 k (Nat.lt_of_lt_of_le hk HDq.out.hw) (by omega)) (Nat.le_trans HDq.out.hw HK11.out.1)⟩,⟨Kd.R_mono (Kd.R_tight rfl HR11.out) (fun k hk=>by simpa [Value.ownBlock]using hk)⟩⟩
  ·have hqz: ¬zq< (ps.length:Int):=by have:=HZQ.out;omega
   have hwl:=HWQ.out;rw[List.drop_eq_nil_of_le (Nat.le_of_not_lt hqt),depWith]at hwl;obtain rfl:=Option.some.inj hwl;clear hwl;have hz1:wrap64 (z+1)=z+1:=depW ⟨by omega,by omega⟩;go_wp2
   go_roundg (ss.length - (i+1))
   case measure=>omega
   case rel=>exact⟨i+1,z+1,_,done++ [row1],hlt,Nat.le_refl _,by first|rfl| (rw[hz1]),by rw[List.length_append,hdl];rfl,⟨by have:=HZ.out;omega⟩,HL',⟨DepAt.next HDq.out hdl HIV.out HRq.out (fun k hk=>by omega)⟩,HBq,⟨by rw[HKq.out.2 g1 hg1c hg1n];exact K19.out⟩⟩
 ·have hltz: ¬z< (ss.length:Int):=by have:=HZ.out;omega
  have hL:=HL.out;rw[List.drop_eq_nil_of_le (Nat.le_of_not_lt hlt),depSteps]at hL;obtain rfl:=Option.some.inj hL;have hde:done.length=ss.length:=by omega
  clear hL HL HZ;obtain⟨y1,y1z,y2,y2z,y3,y3z⟩:=c3Q K1.out;have hgl:g< wr0.heap.size:=HD.out.hg;have hgw:w1.heap.size≤g:=HD.out.ge;have hww:w.heap.size≤w1.heap.size:=HB.out.size;have HBo:=Aside0.mk (Below.refl wr0.heap.size wr0);have HNo:=Aside0.mk (Kd.N_nil (Kd.slice 87 (Kd.int .u64)) 76 wr0 wr0.heap.size (fun k=>w.heap.size≤k));go_wp2
  go_loopg [69,8] os.length (fun gg v69 v8 wq=> ∃ (q:Nat) (zq:Int) (outs:List (List Int)),q≤os.length∧os.length - q≤gg∧v69= .int .i64 zq∧outs.length=q∧Aside0 (zq=(q:Int))∧Aside0 (outs=(os.take q).map fun o=>done.getD o.toNat [])∧Aside0 (Below wr0.heap.size wr0 wq)∧Aside0 (Kd.N (Kd.slice 87 (Kd.int .u64)) 76 wq wr0.heap.size (fun k=>w.heap.size≤k) v8 outs))
  case atStart=>exact⟨0,0,[],Nat.zero_le _,by omega,rfl,rfl,⟨rfl⟩,⟨rfl⟩,HBo,HNo⟩
  case round=>
  clear HBo HNo y1 y1z y2 y2z y3 y3z;obtain⟨q,zq,outs,hq,hgq,rfl,hol,HZQ,HOU,HBq,HNq⟩:=hrel;obtain⟨y1,y1z,y2,y2z,y3,y3z⟩:=c3Q (blk_below K1.out HBq.out);by_cases hqt:q< os.length
  ·have hqz:zq< (os.length:Int):=by have:=HZQ.out;omega
   have hq0:0≤zq:=by have:=HZQ.out;omega
   have HZT:=Aside0.mk (by have:=HZQ.out;omega:zq.toNat=q);obtain⟨ad9,e9,x9⟩:=Kd.at_int (Kd.C_below HR2.out.1 (below_step HBw.out HBq.out)) zq hq0 hqz;subst e9;have hrd:rd os zq=os[q] :=by unfold rd;rw[HZT.out];simp[hqt]
   obtain⟨p,hp⟩: ∃p,p=os[q] :=⟨_,rfl⟩;rw[hrd,←hp]at x9;have hpo:0≤p∧p< (done.length:Int):=by
    have h1:=List.all_eq_true.1 HOS.out p (by rw[hp];exact List.getElem_mem hqt);rw[Bool.and_eq_true]at h1;exact⟨of_decide_eq_true h1.1,of_decide_eq_true h1.2⟩
   obtain⟨hp0,hp1⟩:=hpo;have hps:p< (ss.length:Int):=by omega
   have hpt:p.toNat< done.length:=by omega
   obtain⟨xp,hxp⟩: ∃x,x=done.getD p.toNat [] :=⟨_,rfl⟩;have hout:outs++ [xp] =(os.take (q+1)).map fun o=>done.getD o.toNat [] :=by
    rw[HOU.out,hxp,hp,List.take_add_one,List.getElem?_eq_getElem hqt,List.map_append];rfl
   have HO1:=Aside0.mk hout;have HDq:=Aside0.mk (DepAt.below HD.out HBq.out);obtain⟨Ap,cp,hv,hcp,hF⟩:=HDq.out.old p.toNat xp (by rw[hxp,List.getD_eq_getElem?_getD,List.getElem?_eq_getElem hpt];rfl);have HFP:=Aside0.mk hF;have hxm:xp.length≤9223372036854775807:=Kd.F_max hF;obtain⟨yp,ypz⟩:=HDq.out.cell hv;have HCP:=Aside0.mk hcp;have hq1:wrap64 (zq+1)=zq+1:=depW ⟨by omega,by omega⟩;clear hF hv hcp hxp hout hrd hp;have hbs:wr0.heap.size≤wr.heap.size:=HBq.out.size;go_wp2_with ((with_reducible refine gate_builtin (b:= .append) (xs:= #[.tmp 73,.tmp 78]) rfl ?_);at_builtin;refine Kd.N_append (Kd.slice 87 (Kd.int .u64)) (w0:=wr0) wr0.heap.size rfl (.tmp 73) (.tmp 78) 73 76 (.slice none 0 0) 24 rfl Tryd.underlying73 infoS_ rfl (by decide) (by omega) u8 outs xp [.slice Ap xp.length cp] (fun k=>w.heap.size≤k) (fun k=>(w1.heap.size≤k∧k< wr0.heap.size)∧k≠g) rfl rfl ?aP ?aK ?aF ?aO ?aB ?aS ?aL ?_;(case aP=>exact Kd.FK_slice_mk HCP.out HFP.out);(case aK=>exact fun k hk=>⟨by have:=hk.1.1;omega,fun he=>by have:=Kd.N_base HNq.out k he.symm;have:=hk.1.2;omega⟩);(case aF=>exact fun k hk=>by omega);(case aO=>exact HNq.out);(case aB=>exact HBq.out);(case aS=>exact hbs);(case aL=>rw[hol];omega);intro v79 w79 hN hb hg hat;rw[HO1.out]at hN;have HN2:=Aside0.mk hN;have HB2:=Aside0.mk hb;clear hN hb hg hat)
   go_roundg (os.length - (q+1))
   case measure=>omega
   case rel=>exact⟨q+1,zq+1,_,hqt,Nat.le_refl _,by first|rfl| (rw[hq1]),by rw[List.length_map,List.length_take];omega,⟨by have:=HZQ.out;omega⟩,⟨rfl⟩,HB2,HN2⟩
  ·have hqz: ¬zq< (os.length:Int):=by have:=HZQ.out;omega
   obtain rfl:q=os.length:=by omega
   have ho:=HOU.out;rw[List.take_length]at ho;subst ho;go_wp2
   go_ret;exact⟨_,rfl,Kd.N_lower HNq.out (by omega),below_step HBw.out HBq.out⟩
def sparse_set_has.f(l0:List Int)(a1:Int):Option (Bool):=if 0≤(wrap64 (Int.tdiv a1 64))then(if(wrap64 (Int.tdiv a1 64))< (l0.length:Int)then(if 0≤(Int.tmod a1 64)then(some ((Go.bits .and .u64 (shr .u64 (rd l0 (wrap64 (Int.tdiv a1 64))) (Int.tmod a1 64)) 1)==1))else(none))else(none))else(none)
theorem sparse_set_has.calls(A0:Option Addr)(c0:Nat)(l0:List Int)(a1:Int)(r:Bool)(w:World)(hr0:Kd.C (Kd.int .u64) w A0 l0.length l0)(hc0:l0.length≤c0)(h:sparse_set_has.f l0 a1=some r):
  Calls Tryd.prog 33 #[.slice A0 l0.length c0,.int .i64 a1] w fun e w'=>e= .returned (.bool r)∧Drawn0 w w':=by
 have HR0:=Aside0.mk hr0;have HC0:=Aside0.mk hc0;clear hr0 hc0;have H:=h;clear h;unfold sparse_set_has.f at H;obtain⟨ji3,hji3⟩: ∃j_:Int,(wrap64 (Int.tdiv a1 64))=j_:=⟨_,rfl⟩;(first|rw[hji3]at H|simp only[hji3]at H);have hji3w:(IntKind.i64.wrap (Int.tdiv a1 64))=ji3:=(i64_w _).trans hji3;replace H:=iN H;obtain⟨c4,H⟩:=H;have c4b0:=decide_eq_true c4;clear c4;replace H:=iN H;obtain⟨c5,H⟩:=H;have c5b0:=decide_eq_true c5;clear c5;obtain⟨ji6,hji6⟩: ∃j_:Int,(Int.tmod a1 64)=j_:=⟨_,rfl⟩;(first|rw[hji6]at H|simp only[hji6]at H);replace H:=iN H;obtain⟨c7,H⟩:=H;have c7b0:=eq_true c7;have c7b1:=decide_eq_true c7;clear c7;obtain⟨ji8,hji8⟩: ∃j_:Int,(shr .u64 (rd l0 (ji3)) (ji6))=j_:=⟨_,rfl⟩;(first|rw[hji8]at H|simp only[hji8]at H);have hji8_:((rd l0 (ji3)) / 2 ^ min (ji6).toNat 64)=ji8:=hji8;have hji8z:(ji6)≤64→((rd l0 (ji3)) / 2 ^ (ji6).toNat)=ji8:=shr_small hji8;obtain rfl:=Option.some.inj H;have p231:0≤((ji3):Int):=dQ;have q231:(ji3)< (l0.length:Int):=dQ;obtain⟨ad231,e231,hx231_0⟩:=Kd.at_int HR0.out (ji3) p231 q231;cases e231;replace p231:=eq_true p231;replace q231:=eq_true q231;go_enter Tryd.func33,Tryd.ntmps33
 go_wp2
 go_ret;exact⟨by first|rfl| (simp;done) | (simp only[←hji3,←hji6,←hji8] <;>(first|rfl|simp)) | (simp[*];done),by repeat(first|exact Drawn0.refl _|apply Drawn0.step)⟩
def patHas(s:List Int):Nat→Nat→List Bool→Option (List Bool)
 |0,_,row=>some row
 |m+1,j,row=>(sparse_set_has.f s (j:Int)).bind fun b=>patHas s m (j+1) (row.set j b)
def patRows(N:Nat):List (List Int)→List (List Bool)→Option (List (List Bool))
 | [],acc=>some acc
 |s::ss,acc=>(patHas s N 0 (List.replicate N false)).bind fun row=>patRows N ss (acc++ [row])
def sparse_pattern.f(k:Nat)(n0:Int)(ss:List S44)(os:List Int):Option (List (List Bool)):=
 if 0≤n0∧n0.toNat≤1000000 then(sparse_depends.f k n0 ss os).bind fun l=>if l.length≤1000000 then patRows n0.toNat l []else none else none
theorem patHas_len{s:List Int} : ∀ {m j:Nat} {row r:List Bool},patHas s m j row=some r→r.length=row.length
 |0,_,_,_,h=>by rw[patHas]at h;obtain rfl:=Option.some.inj h;rfl
 |m+1,j,row,r,h=>by
  rw[patHas]at h
  obtain⟨b,_,h⟩:=bO h
  rw[patHas_len h,List.length_set]
theorem infoBs_:(Tryd.prog.info? 38).map (fun i=>(i.zero,i.size,i.bytes))=some (some (.slice none 0 0),1,24):=by kernel_rfl
theorem infoB_:(Tryd.prog.info? 4).map (fun i=>(i.zero,i.size,i.bytes))=some (some (.bool false),1,1):=by kernel_rfl
theorem sparse_pattern.calls(k:Nat)(n0:Int)(A1:Option Addr)(c1:Nat)(ss:List S44)(A2:Option Addr)(c2:Nat)(os:List Int)(r:List (List Bool))(w:World)(hG:HasT w)(hr1:Kd.C k44 w A1 ss.length ss)(hc1:ss.length≤c1)(hr2:Kd.C (Kd.int .i64) w A2 os.length os)(hc2:os.length≤c2)(h:sparse_pattern.f k n0 ss os=some r):
  Calls Tryd.prog 14 #[.agg #[.int .i64 n0,.slice A1 ss.length c1,.slice A2 os.length c2]] w fun e w'=> ∃v0_:Value,e= .returned (v0_)∧Kd.N (Kd.slice 4 Kd.bool) 38 w' w.heap.size (fun k_=>w.heap.size≤k_) v0_ r∧Below w.heap.size w w':=by
 have HR1:=Aside0.mk (And.intro hr1 hc1);have HR2:=Aside0.mk (And.intro hr2 hc2);have HG:=Aside0.mk hG;have hu25:=Tryd.underlying25;unfold sparse_pattern.f at h;obtain⟨hn,h⟩:=iN h;obtain⟨l,HL,h⟩:=bO h;obtain⟨hll,h⟩:=iN h;obtain⟨hn0,hn6⟩:=hn;have HP:=Aside0.mk h;clear h hG hr1 hr2 hc1 hc2;go_enter Tryd.func14,Tryd.ntmps14
 go_upto_region 2 with ((with_reducible refine gD 1 ?_);refine bx_ 1 #[.int .i64 n0,.slice A1 ss.length c1,.slice A2 os.length c2] 25 ?_;intro g1 hg w1 hbox hb;have K1:=Aside0.mk hbox;have HB:=Aside0.mk hb;clear hg hbox hb;obtain⟨y1,_,y2,_,y3,_⟩:=c3Q K1.out)
 have hww:w.heap.size≤w1.heap.size:=HB.out.size;go_upto_block 0 with (go_at_call 32;(with_reducible refine(sparse_depends.calls k n0 A1 c1 ss A2 c2 os l _ (HG.out.below HB.out) (Kd.C_below HR1.out.1 HB.out) HR1.out.2 (Kd.C_below HR2.out.1 HB.out) HR2.out.2 HL.out).mono ?_);rintro e_ w3 ⟨v9,rfl,ho,hb⟩;have HB3:=Aside0.mk hb;obtain⟨A9,c9,e9⟩:=Kd.N_slice ho;subst e9;have HN9:=Aside0.mk ho;clear ho hb)
 have K3:=Aside0.mk (blk_below K1.out HB3.out);have HB3w:=Aside0.mk (below_step HB.out HB3.out);have hc9:l.length≤c9:=(Kd.N_reads' HN9.out).2.1;have HC9:=Aside0.mk (Kd.N_reads' HN9.out).2.2;have hs3:w1.heap.size≤w3.heap.size:=HB3.out.size;have HBo:=Aside0.mk (Below.refl w3.heap.size w3);have HNo:=Aside0.mk (Kd.N_nil (Kd.slice 4 Kd.bool) 38 w3 w3.heap.size (fun k=>w3.heap.size≤k));have HPL:=Aside0.mk (by rw[List.drop_zero];exact HP.out:patRows n0.toNat (l.drop 0) [] =some r);clear HN9 y1 y2 y3;go_wp2
 go_loopg [11,3] l.length (fun gg v11 v3 wq=> ∃ (q:Nat) (zq:Int) (outs:List (List Bool)),q≤l.length∧l.length - q≤gg∧v11= .int .i64 zq∧outs.length=q∧Aside0 (zq=(q:Int))∧Aside0 (patRows n0.toNat (l.drop q) outs=some r)∧Aside0 (Below w3.heap.size w3 wq)∧Aside0 (Kd.N (Kd.slice 4 Kd.bool) 38 wq w3.heap.size (fun k=>w3.heap.size≤k) v3 outs))
 case atStart=>exact⟨0,0,[],Nat.zero_le _,by omega,rfl,rfl,⟨rfl⟩,HPL,HBo,HNo⟩
 case round=>
 clear HBo HNo HPL HP;obtain⟨q,zq,outs,hq,hgq,rfl,hol,HZQ,HPQ,HBq,HNq⟩:=hrel;obtain⟨wr0,hwr0⟩: ∃wr0:World,wr0=wr:=⟨_,rfl⟩;subst hwr0;by_cases hqt:q< l.length
 ·have hqz:zq< (l.length:Int):=by have:=HZQ.out;omega
  have hq0:0≤zq:=by have:=HZQ.out;omega
  have HZT:=Aside0.mk (by have:=HZQ.out;omega:zq.toNat=q);obtain⟨ad9,cc9,e9,_,hK9,hcc9⟩:=Kd.C_get (Kd.C_below HC9.out HBq.out) [] zq hq0 hqz;subst e9;rw[HZT.out]at hK9;obtain⟨s,hs⟩: ∃s,s=l[q] :=⟨_,rfl⟩;rw[show l.getD q [] =s from by rw[List.getD_eq_getElem?_getD,List.getElem?_eq_getElem hqt,hs];rfl]at hK9;obtain⟨As,cs,rfl,hcs,hCs⟩:=hK9;have x9:=hcc9 0 _ rfl;rw[show(Kd.slice 87 (Kd.int .u64)).sz=1 from rfl,Nat.mul_one,Nat.add_zero]at x9;have HCS:=Aside0.mk (And.intro hCs hcs);have hsm:s.length≤9223372036854775807:=hCs.2.1;have hd:l.drop q=s::l.drop (q+1):=by rw[hs];exact List.drop_eq_getElem_cons hqt
  have hL:=HPQ.out;rw[hd,patRows]at hL;obtain⟨row,HROW,hL⟩:=bO hL;have HL':=Aside0.mk hL;have hrl:row.length=n0.toNat:=by rw[patHas_len HROW.out,List.length_replicate]
  clear hL hd hs hCs hcs hcc9 HPQ;obtain⟨y1,y1z,y2,y2z,y3,y3z⟩:=c3Q (blk_below K3.out HBq.out);go_upto_region 6 with ((with_reducible refine gD 17 ?_);refine Kd.R_make Kd.bool (w0:=wr0) wr0.heap.size 4 rfl (N:=17) rfl 38 _ _ rfl n0 rfl rfl Tryd.underlying38 (.bool false) 1 infoB_ rfl (by decide) (by omega) false (ok:=fun _=>True) (okp:=fun _=>True) rfl (fun _ hk=>hk) trivial hn0 (by omega) (Below.refl _ _) (Nat.le_refl _) ?_;intro v17 w5 ho hb hg_ hnew_;have HO:=Aside0.mk ho;have HB5:=Aside0.mk hb;have HNW:=Aside0.mk hnew_;obtain⟨A17,c17,e17⟩:=Kd.R_slice ho;subst e17;clear ho hb hg_ hnew_)
  generalize hNN:n0.toNat=N at HO hrl hn6 HROW HL' ⊢;have HNN:=Aside0.mk hNN;clear hNN y1 y1z y2 y2z y3 y3z x9;have hR5:=HO.out;rw[List.length_replicate]at hR5;have HR5:=Aside0.mk hR5;clear hR5 HO;have HPH:=Aside0.mk (by rw[Nat.sub_zero];exact HROW.out:patHas s (N - 0) 0 (List.replicate N false)=some row);have hN9:(N:Int)≤1000000:=by omega
  have hs0:w3.heap.size≤wr0.heap.size:=HBq.out.size;go_wp2
  go_loopg [20] N (fun gg v20 wq=> ∃ (m:Nat) (zm:Int) (cur:List Bool),m≤N∧N - m≤gg∧v20= .int .i64 zm∧cur.length=N∧Aside0 (zm=(m:Int))∧Aside0 (patHas s (N - m) m cur=some row)∧Aside0 (Below wr0.heap.size wr0 wq)∧Aside0 (Kd.R Kd.bool 4 wq wr0.heap.size (fun _=>True) (.slice A17 N c17) cur))
  case atStart=>exact⟨0,0,_,Nat.zero_le _,by omega,rfl,List.length_replicate,⟨rfl⟩,HPH,HB5,HR5⟩
  case round=>
  clear HPH HB5 HR5;obtain⟨m,zm,cur,hm,hgm,rfl,hcl,HZM,HPM,HBm,HRm⟩:=hrel;by_cases hmt:m< N
  ·have hmz:zm< (N:Int):=by have:=HZM.out;omega
   have hm0:0≤zm:=by have:=HZM.out;omega
   have HMT:=Aside0.mk (by have:=HZM.out;omega:zm.toNat=m);have hpm:=HPM.out;rw[show N - m=(N - (m+1)) +1 from by omega,patHas,←HZM.out]at hpm;obtain⟨b,HB_,hpm⟩:=bO hpm;have HPM':=Aside0.mk (by rw[HMT.out];exact hpm:patHas s (N - (m+1)) (m+1) (cur.set zm.toNat b)=some row);clear hpm HPM;obtain⟨g17,c17',e17,gb17,gl17,_⟩:=Kd.R_form HRm.out (by omega);injection e17 with ea_ en_ ec_
   subst ea_;subst ec_;clear en_;obtain⟨d1,d2⟩:=Kd.R_celln false HRm.out zm hm0 hmz;have hm1:wrap64 (zm+1)=zm+1:=depW ⟨by omega,by omega⟩;have HCS2:=Aside0.mk (Kd.C_below HCS.out.1 HBm.out);go_wp2_with (go_at_call 33;(with_reducible refine(sparse_set_has.calls As cs s zm b _ HCS2.out HCS.out.2 HB_.out).mono ?_);rintro e_ w9 ⟨rfl,⟨nd,rfl⟩⟩)
   go_roundg (N - (m+1))
   case measure=>omega
   case rel=>exact⟨m+1,zm+1,_,hmt,Nat.le_refl _,by first|rfl| (rw[hm1]),by rw[List.length_set];exact hcl,⟨by have:=HZM.out;omega⟩,HPM',⟨below_set (pw_below_drewN HBm.out nd) gb17⟩,⟨Kd.R_putn (Kd.R_drewN HRm.out nd) zm b⟩⟩
  ·have hmz: ¬zm< (N:Int):=by have:=HZM.out;omega
   have hpm:=HPM.out;rw[show N - m=0 from by omega,patHas]at hpm;obtain rfl:=Option.some.inj hpm;have hq1:wrap64 (zq+1)=zq+1:=depW ⟨by omega,by omega⟩;have HOn:=Aside0.mk (Kd.N_below HNq.out HBm.out);have HBn:=Aside0.mk (below_step HBq.out HBm.out);have hlc:N≤c17:=(Kd.R_reads' HRm.out).2.1;have hFK:Kd.FK (Kd.slice 4 Kd.bool) wr (fun k=>wr0.heap.size≤k) cur [.slice A17 N c17] :=by
    have h1:=HRm.out;rw[←hcl]at h1;have h2:=Kd.FK_slice_mk (e:=4) (c:=c17) (by rw[hcl];exact hlc) (Kd.F_mono (Kd.R_F (Kd.R_bound h1)) (ok':=fun k=>wr0.heap.size≤k) (fun k hk=>hk.2.1))
    rwa [hcl]at h2
   have HFK:=Aside0.mk hFK;have hbs:wr0.heap.size≤wr.heap.size:=HBm.out.size;clear hFK;go_wp2_with ((with_reducible refine gate_builtin (b:= .append) (xs:= #[.tmp 30,.tmp 32]) rfl ?_);at_builtin;refine Kd.N_append (Kd.slice 4 Kd.bool) (w0:=w3) w3.heap.size rfl (.tmp 30) (.tmp 32) 27 38 (.slice none 0 0) 24 rfl Tryd.underlying27 infoBs_ rfl (by decide) (by omega) u3 outs cur [.slice A17 N c17] (fun k=>w3.heap.size≤k) (fun k=>wr0.heap.size≤k) rfl rfl ?aP ?aK ?aF ?aO ?aB ?aS ?aL ?_;(case aP=>exact HFK.out);(case aK=>exact fun k hk=>⟨by omega,fun he=>by have:=Kd.N_lt HNq.out k he.symm;omega⟩);(case aF=>exact fun k hk=>by omega);(case aO=>exact HOn.out);(case aB=>exact HBn.out);(case aS=>omega);(case aL=>rw[hol];omega);intro v33 w33 hN hb hg hat;have HN2:=Aside0.mk hN;have HB2:=Aside0.mk hb;clear hN hb hg hat)
   go_roundg (l.length - (q+1))
   case measure=>omega
   case rel=>exact⟨q+1,zq+1,_,hqt,Nat.le_refl _,by first|rfl| (rw[hq1]),by rw[List.length_append,hol];rfl,⟨by have:=HZQ.out;omega⟩,by rw[HNN.out];exact HL',HB2,HN2⟩
 ·have hqz: ¬zq< (l.length:Int):=by have:=HZQ.out;omega
  have hL:=HPQ.out;rw[List.drop_eq_nil_of_le (Nat.le_of_not_lt hqt),patRows]at hL;obtain rfl:=Option.some.inj hL;go_wp2
  go_ret;exact⟨_,rfl,Kd.N_mono (Kd.N_lower HNq.out (by omega)) (fun k hk=>by omega),below_step HB3w.out HBq.out⟩
def sparse_Pattern.f(k:Nat)(n0:Int)(ss:List S44)(os:List Int):Option (List (List Bool)×Int):=
 (trace_Check.f k n0 ss os).bind fun e=>if e=0 then(if n0 >4096 then some ([],3)else if(os.length:Int) >4096 then some ([],3)else(sparse_pattern.f k n0 ss os).bind fun p=>some (p,0))else some ([],e)
theorem sparse_Pattern.calls0(k:Nat)(n0:Int)(A1:Option Addr)(c1:Nat)(ss:List S44)(A2:Option Addr)(c2:Nat)(os:List Int)(r:List (List Bool)×Int)(w:World)(hG:HasT w)(hr1:Kd.C k44 w A1 ss.length ss)(hc1:ss.length≤c1)(hr2:Kd.C (Kd.int .i64) w A2 os.length os)(hc2:os.length≤c2)(h:sparse_Pattern.f k n0 ss os=some r):
  Calls Tryd.prog 6 #[.agg #[.int .i64 n0,.slice A1 ss.length c1,.slice A2 os.length c2]] w fun e w'=> ∃v0_:Value,e= .returned (.tuple #[v0_,.int .i64 r.2])∧Kd.N (Kd.slice 4 Kd.bool) 38 w' w.heap.size (fun k_=>w.heap.size≤k_) v0_ r.1∧Below w.heap.size w w':=by
 have HR1:=Aside0.mk (And.intro hr1 hc1);have HR2:=Aside0.mk (And.intro hr2 hc2);have HG:=Aside0.mk hG;have hu25:=Tryd.underlying25;unfold sparse_Pattern.f at h;obtain⟨e0,HE,h⟩:=bO h;clear hG hr1 hr2 hc1 hc2;go_enter Tryd.func6,Tryd.ntmps6
 go_upto_region 2 with (first
  | ((with_reducible refine gD 1 ?_);refine bx_ 1 #[.int .i64 n0,.slice A1 ss.length c1,.slice A2 os.length c2] 25 ?_;intro g1 hg w1 hbox hb;have K1:=Aside0.mk hbox;have HB:=Aside0.mk hb;clear hg hbox hb;obtain⟨y1,_,y2,_,y3,_⟩:=c3Q K1.out)
  | (go_at_call 11;(with_reducible refine(trace_Check.calls k n0 A1 c1 ss A2 c2 os e0 _ (HG.out.below HB.out) (Kd.C_below HR1.out.1 HB.out) HR1.out.2 (Kd.C_below HR2.out.1 HB.out) HR2.out.2 HE.out).mono ?_);rintro e_ w3 ⟨rfl,hb⟩;have HB3:=Aside0.mk hb;clear hb))
 have K3:=Aside0.mk (blk_below K1.out HB3.out);have HB3w:=Aside0.mk (below_step HB.out HB3.out);clear y1 y2 y3;obtain⟨y1,y1z,y2,y2z,y3,y3z⟩:=c3Q K3.out;by_cases he:e0=0
 ·rw[if_pos he]at h;have hb0:(e0 !=0)=false:=by simp[he]
  have hd0:decide (e0=0)=true:=decide_eq_true he;by_cases h1:n0 >4096
  ·rw[if_pos h1]at h;obtain rfl:=Option.some.inj h;go_wp2
   go_ret2;exact⟨_,rfl,Kd.N_nil _ _ _ _ _,HB3w.out⟩
  ·rw[if_neg h1]at h;by_cases h2:(os.length:Int) >4096
   ·rw[if_pos h2]at h;obtain rfl:=Option.some.inj h;go_wp2
    go_ret2;exact⟨_,rfl,Kd.N_nil _ _ _ _ _,HB3w.out⟩
   ·rw[if_neg h2]at h;obtain⟨p,HP,h⟩:=bO h;obtain rfl:=Option.some.inj h;go_wp2_with (go_at_call 14;(with_reducible refine(sparse_pattern.calls k n0 A1 c1 ss A2 c2 os p _ (HG.out.below HB3w.out) (Kd.C_below HR1.out.1 HB3w.out) HR1.out.2 (Kd.C_below HR2.out.1 HB3w.out) HR2.out.2 HP.out).mono ?_);rintro e_ w5 ⟨v5,rfl,ho,hb⟩;have HO5:=Aside0.mk ho;have HB5:=Aside0.mk hb;clear ho hb)
    go_ret2;exact⟨_,rfl,Kd.N_mono (Kd.N_lower HO5.out HB3w.out.size) (fun k hk=>Nat.le_trans HB3w.out.size hk),below_step HB3w.out HB5.out⟩
 ·rw[if_neg he]at h;obtain rfl:=Option.some.inj h;go_wp2
  go_ret2;exact⟨_,rfl,Kd.N_nil _ _ _ _ _,HB3w.out⟩
theorem sparse_Pattern.calls(k:Nat)(n0:Int)(A1:Option Addr)(c1:Nat)(ss:List S44)(A2:Option Addr)(c2:Nat)(os:List Int)(r1:List (List Bool))(r2:Int)(w:World)(hG:HasT w)(hr1:Kd.C k44 w A1 ss.length ss)(hc1:ss.length≤c1)(hr2:Kd.C (Kd.int .i64) w A2 os.length os)(hc2:os.length≤c2)(h:sparse_Pattern.f k n0 ss os=some (r1,r2)):
  Calls Tryd.prog 6 #[.agg #[.int .i64 n0,.slice A1 ss.length c1,.slice A2 os.length c2]] w fun e w'=> ∃v0_:Value,e= .returned (.tuple #[v0_,.int .i64 r2])∧Kd.N (Kd.slice 4 Kd.bool) 38 w' w.heap.size (fun k_=>w.heap.size≤k_) v0_ r1∧Below w.heap.size w w':=
 sparse_Pattern.calls0 k n0 A1 c1 ss A2 c2 os (r1,r2) w hG hr1 hc1 hr2 hc2 h
theorem IndexFunc_LBool.calls(A0:Option Addr)(c0:Nat)(l0:List (List Bool))(w:World)(g:Nat)(lb:Array Value)(p:List Bool→Bool)
  (eg: ∀args w,(callFunc g args).run Tryd.prog w= .ok (.enter g args) w)
  (hr0:Kd.C (Kd.slice 4 Kd.bool) w A0 l0.length l0)
  (hp: ∀ (W:World) (x:List Bool) (v:Value),Below w.heap.size w W→Kd.K (Kd.slice 4 Kd.bool) W x [v] →x∈l0→FnAny g lb v (p x) W):
  Calls Tryd.prog 72 #[.slice A0 l0.length c0,.func (.func g) #[] lb] w fun e w'=>(∃i:Int,e= .returned (.int .i64 i)∧(decide (0≤i)=l0.any p))∧Below w.heap.size w w':=by
 have HR:=Aside0.mk hr0;have HP:=Aside0.mk hp;have hn:l0.length≤9223372036854775807:=hr0.2.1;clear hr0 hp;go_enter Tryd.func72,Tryd.ntmps72
 go_wp2
 go_loopg [5,8] l0.length (fun gg _ s8 wr=> ∃kk:Nat,kk≤l0.length∧l0.length - kk≤gg∧s8= .int .i64 kk∧Aside0 (Below w.heap.size w wr)∧Aside0 (∀x,x∈l0.take kk→p x=false))
 case atStart=>exact⟨0,Nat.zero_le _,by omega,rfl,⟨Below.refl _ _⟩,⟨by simp⟩⟩
 case round=>
  obtain⟨kk,hkk,hg,rfl,HB,HA⟩:=hrel;by_cases hlt:kk< l0.length
  ·have hltz:(kk:Int)< (l0.length:Int):=by omega
   obtain⟨ad,c,e0,hc1,hK,hc0'⟩:=Kd.C_get (Kd.C_below HR.out HB.out) ([] :List Bool) (kk:Int) (by omega) (by omega);subst e0;obtain⟨v,rfl⟩: ∃v,c= [v] :=by
    match c,(show c.length=1 from hc1)with
    | [v],_=>exact⟨v,rfl⟩
   have hcell:wr.cell? (ad.add kk)=some v:=by
    have:=hc0' 0 v rfl
    rw[show(Kd.slice 4 Kd.bool).sz=1 from rfl]at this
    simpa using this
   have hx:l0.getD (Int.toNat kk) ([] :List Bool)=l0[kk] :=by simp[hlt]
   rw[hx]at hK;have hcall:=HP.out wr l0[kk] v HB.out hK (List.getElem_mem _);unfold FnAny at hcall;have HC:=Aside0.mk hcall;clear hcall hc0' hK hx hc1;obtain⟨b,hqq⟩: ∃b,p l0[kk] =b:=⟨_,rfl⟩;rw[hqq]at HC;have Hqq:=Aside0.mk hqq;clear hqq;cases b with
   |true=>
    go_wp2_with fail
    refine HC.out.mono ?_;rintro e w' ⟨rfl,hb⟩;go_wp2_with fail
    go_ret;refine⟨⟨_,rfl,?_⟩,HB.out.trans (hb.mono HB.out.size)⟩;rw[show decide (0≤(kk:Int))=true from by simp];exact(List.any_eq_true.2 ⟨l0[kk],List.getElem_mem _,Hqq.out⟩).symm
   |false=>
    go_wp2_with fail
    refine HC.out.mono ?_;rintro e w' ⟨rfl,hb⟩;go_wp2_with fail
    go_roundg (l0.length - (kk+1))
    case measure=>omega
    case rel=>
     refine⟨kk+1,by omega,by omega,by go_num,⟨HB.out.trans (hb.mono HB.out.size)⟩,⟨fun x hx=>?_⟩⟩;rw[List.take_succ_eq_append_getElem hlt,List.mem_append]at hx;rcases hx with hx|hx
     ·exact HA.out x hx
     ·rw[List.mem_singleton.1 hx];exact Hqq.out
  ·have hltz: ¬ (kk:Int)< (l0.length:Int):=by omega
   have:kk=l0.length:=by omega
   subst this;go_wp2
   go_ret;refine⟨⟨_,rfl,?_⟩,HB.out⟩;rw[List.take_length]at HA;rw[show decide ((0:Int)≤ -1)=false from rfl];exact(List.any_eq_false.2 (fun x hx=>by rw[HA.out x hx];decide)).symm
theorem ContainsFunc_LBool.calls(A0:Option Addr)(c0:Nat)(l0:List (List Bool))(w:World)(g:Nat)(lb:Array Value)(p:List Bool→Bool)
  (eg: ∀args w,(callFunc g args).run Tryd.prog w= .ok (.enter g args) w)
  (hr0:Kd.C (Kd.slice 4 Kd.bool) w A0 l0.length l0)
  (hp: ∀ (W:World) (x:List Bool) (v:Value),Below w.heap.size w W→Kd.K (Kd.slice 4 Kd.bool) W x [v] →x∈l0→FnAny g lb v (p x) W):
  Calls Tryd.prog 54 #[.slice A0 l0.length c0,.func (.func g) #[] lb] w fun e w'=>e= .returned (.bool (l0.any p))∧Below w.heap.size w w':=by
 have HX:=Aside0.mk (IndexFunc_LBool.calls A0 c0 l0 w g lb p eg hr0 hp);clear eg hr0 hp;go_enter Tryd.func54,Tryd.ntmps54
 go_wp2_with fail
 refine HX.out.mono ?_;rintro e w' ⟨⟨i,rfl,hi⟩,hb⟩;have Hi:=Aside0.mk hi;clear hi HX;go_wp2_with fail
 go_ret;exact⟨by rw[←Hi.out];rfl,hb⟩
theorem sparse_form.enters: ∀args w,(callFunc 55 args).run Tryd.prog w= .ok (.enter 55 args) w:=enters_of Tryd.func55 (by kernel_rfl) rfl
theorem sparse_form.lit(n:Int)(B:Addr)(W:World)(hB:W.cell? B=some (.int .i64 n))(A:Option Addr)(c:Nat)(x:List Bool):FnAny 55 #[.pointer (some B)] (.slice A x.length c) (decide (¬ (x.length:Int)=n)) W:=by
 unfold FnAny;go_enter Tryd.func55,Tryd.ntmps55
 go_wp2_with fail
 go_ret;exact⟨by rw[decide_not];rfl,Below.refl _ _⟩
def sparse_form.f(l0:List (List Bool))(a1:Int):Option Int:=
 if(l0.length:Int) >4096 then some 3 else if a1< 0 then some 2 else if a1 >4096 then some 2 else if l0.any (fun x=>decide (¬ (x.length:Int)=a1))=true then some 2 else some 0
theorem sparse_form.calls(A0:Option Addr)(c0:Nat)(l0:List (List Bool))(a1:Int)(r:Int)(w:World)(hr0:Kd.C (Kd.slice 4 Kd.bool) w A0 l0.length l0)(hc0:l0.length≤c0)(h:sparse_form.f l0 a1=some r):
  Calls Tryd.prog 36 #[.slice A0 l0.length c0,.int .i64 a1] w fun e w'=>e= .returned (.int .i64 r)∧Below w.heap.size w w':=by
 have HR:=Aside0.mk hr0;clear hr0 hc0;unfold sparse_form.f at h;by_cases h1:(l0.length:Int) >4096
 ·rw[if_pos h1]at h;cases h;go_enter Tryd.func36,Tryd.ntmps36
  go_wp2_with fail
  go_ret;exact⟨rfl,by repeat(first|exact Below.refl _ _|apply below_alloc|apply pw_below_drewN|apply below_drew1)⟩
 ·rw[if_neg h1]at h;by_cases h2:a1< 0
  ·rw[if_pos h2]at h;cases h;go_enter Tryd.func36,Tryd.ntmps36
   go_wp2_with fail
   go_ret;exact⟨rfl,by repeat(first|exact Below.refl _ _|apply below_alloc|apply pw_below_drewN|apply below_drew1)⟩
  ·rw[if_neg h2]at h;by_cases h3:a1 >4096
   ·rw[if_pos h3]at h;cases h;go_enter Tryd.func36,Tryd.ntmps36
    go_wp2_with fail
    go_ret;exact⟨rfl,by repeat(first|exact Below.refl _ _|apply below_alloc|apply pw_below_drewN|apply below_drew1)⟩
   ·rw[if_neg h3]at h;obtain⟨b,hb⟩: ∃b,l0.any (fun x=>decide (¬ (x.length:Int)=a1))=b:=⟨_,rfl⟩;rw[hb]at h;have HB:=Aside0.mk hb;clear hb;have HP: ∀W:World,Below (w.alloc (.cells #[.int .i64 a1] 3 (0,0))).heap.size (w.alloc (.cells #[.int .i64 a1] 3 (0,0))) W→W.cell? ⟨w.heap.size,0,none⟩=some (.int .i64 a1):=
     fun W hW=>(hW.cell (p:=⟨w.heap.size,0,none⟩) (by simp)).trans (by go_simp)
    have HP:=Aside0.mk HP;cases b;all_goals
     cases h;go_enter Tryd.func36,Tryd.ntmps36
     go_wp2_with fail
     refine(ContainsFunc_LBool.calls A0 c0 l0 _ 55 _ _ sparse_form.enters (Kd.C_alloc HR.out _) (fun W x v hW hK _=>by obtain⟨A,c,hv,_⟩:=hK;cases hv;exact sparse_form.lit a1 _ W (HP.out W hW) A c x)).mono ?_;rintro e w' ⟨rfl,hb⟩;rw[HB.out];go_wp2_with fail
     go_ret;exact⟨rfl,(below_alloc (Below.refl _ _) _).trans (hb.mono (by simp))⟩
end Go.Proofs.YtjjbondlcjnaiaaDoor.PSparseJoined
