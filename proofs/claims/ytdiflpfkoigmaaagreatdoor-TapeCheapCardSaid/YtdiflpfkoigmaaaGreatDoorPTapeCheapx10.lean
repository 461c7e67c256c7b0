-- written by a program of this session, after the kit's print
import Derived.Test.YtdiflpfkoigmaaaGreatDoorPTapeCheapx8
namespace Go.Proofs.YtdiflpfkoigmaaaGreatDoor.PTapeCheap
open Go.RowKit Go.Proofs.YtdiflpfkoigmaaaGreatDoorW
set_option maxHeartbeats 8000000
set_option maxRecDepth 100000
set_option linter.unusedVariables false
set_option linter.unusedSimpArgs false
attribute [local go_sem] max2_int min2_int max_two min_two max_three min_three max_four min_four
theorem slice_fromT(B:Option Addr)(L d:Nat)(n:Int)(h0:0≤n)(h1:n≤L)(W:World):(Instr.sliceAt 22 (.slice B L d) (some (.int .i64 n)) none none).run Tryz.prog W= .ok (.slice (if d=n.toNat then B else B.map (·.add (n.toNat * 7))) (L - n.toNat) (d - n.toNat)) W:=by
 have hs:(sizeOf 81).run Tryz.prog W= .ok 7 W:=by
  have hi:=infoStepT;cases e:Tryz.prog.info? 81 with
  |none=>rw[e]at hi;cases hi
  |some i=>
   rw[e]at hi;simp only[Option.map_some,Option.some.injEq,Prod.mk.injEq]at hi;simp[sizeOf,e,hi.2.1,go_sem]
   rfl
 have he:Tryz.prog.elem 22=81:=by kernel_rfl
 have hu:Tryz.prog.underlying 22=some (.slice (Tryz.prog.elem 22)):=by rw[he];exact Tryz.underlying22
 rw[run_sliceAt_slice (h:=hu),run_slice_l (ht:=hu) (h0:=h0) (h1:=h1),he,hs];rfl
def rangeI(n:Nat):List Int:=(List.range n).map fun j:Nat=>(j:Int)
theorem rangeI_succ(n:Nat):rangeI (n+1)=rangeI n++ [(n:Int)] :=by unfold rangeI;rw[List.range_succ,List.map_append];rfl
theorem rangeI_len(n:Nat):(rangeI n).length=n:=by unfold rangeI;rw[List.length_map,List.length_range]
theorem infoIntT:(Tryz.prog.info? 3).map (fun i=>(i.zero,i.size,i.bytes))=some (some (.int .i64 0),1,8):=by kernel_rfl
structure CopyAt (w0 w W:World) (X Y:Nat→Prop) (g g8 ga:Nat) (n:Int) (c:Nat) (steps:List S81) (vO:Value) (cells:Array Value) (At:Option Addr) (ct:Nat) (tl:List Int):Prop where
 tw:TWat w0 W Y g n (some ⟨ga,0,none⟩) c steps vO
 k8:W.heap[g8]? =some (.cells cells 81 (0,0))
 n8: ¬Y g8∧g8≠g
 row:Kd.R (Kd.int .i64) 3 W w0.heap.size (fun k=>w.heap.size≤k∧ ¬Y k) (.slice At tl.length ct) tl
 below:Below w0.heap.size w0 W
 kept:Kept w W (fun k=>k=g∨X k)
 hY: ∀k,Y k→X k∨w.heap.size≤k
 hg:w0.heap.size≤g
section
variable {w0 w W:World} {X Y:Nat→Prop} {g g8 ga:Nat} {n:Int} {c:Nat} {st:List S81} {e:S81} {vO:Value} {cells:Array Value} {At:Option Addr} {ct:Nat} {tl:List Int}
theorem CopyAt.last(h:CopyAt w0 w W X Y g g8 ga n c (st++ [e]) vO cells At ct tl): ∃A5 c5 A6 c6,e.f3.f2.length≤c5∧Kd.F (Kd.int .u32) W (fun k=>(w0.heap.size≤k∧k≠g∧Y k)∧k≠ga) A5 e.f3.f2.length e.f3.f2∧e.f3.f3.length≤c6∧Kd.F (Kd.int .u32) W (fun k=>(w0.heap.size≤k∧k≠g∧Y k)∧k≠ga) A6 e.f3.f3.length e.f3.f3∧
  (∀j u,[Value.int .i64 e.f0,.int .i64 e.f1,.int .i64 e.f2,.int .i64 e.f3.f0,.bool e.f3.f1,.slice A5 e.f3.f2.length c5,.slice A6 e.f3.f3.length c6][j]? =some u→W.cell? ⟨ga,st.length * 7+j,none⟩=some u)∧(∀j,W.frozen? ⟨ga,st.length * 7+j,none⟩=false):=by
 have el:(st++ [e]).length=st.length+1:=by rw[List.length_append];rfl
 obtain⟨cc,hcl,hFK,hcc,hfr⟩:=Kd.N_elem h.tw.2 e (st.length:Int) (by omega) (by rw[el];omega);rw[Int.toNat_natCast]at hFK hcc hfr;rw[List.getD_eq_getElem?_getD,List.getElem?_append_right (Nat.le_refl _),Nat.sub_self]at hFK;obtain⟨A5,c5,A6,c6,rfl,l5,g5,l6,g6⟩:=k81_openF hFK;exact⟨A5,c5,A6,c6,l5,g5,l6,g6,hcc,hfr⟩
theorem CopyAt.gaY(h:CopyAt w0 w W X Y g g8 ga n c (st++ [e]) vO cells At ct tl):w0.heap.size≤ga∧ga≠g∧Y ga:=h.tw.2.1 ga (by simp[Value.ownBlock])
theorem CopyAt.drew(h:CopyAt w0 w W X Y g g8 ga n c (st++ [e]) vO cells At ct tl):CopyAt w0 w W.drew X Y g g8 ga n c (st++ [e]) vO cells At ct tl:=
 ⟨h.tw.step (fun _ _ _ _=>rfl) h.hg,h.k8,h.n8,Kd.R_drew h.row,below_drew1 h.below,h.kept,h.hY,h.hg⟩
theorem CopyAt.put(h:CopyAt w0 w W X Y g g8 ga n c (st++ [e]) vO cells At ct tl){e':S81}{j:Nat}{v:Int}(hj:(j=1∧e'=⟨e.f0,v,e.f2,e.f3⟩)∨(j=2∧e'=⟨e.f0,e.f1,v,e.f3⟩)):
  CopyAt w0 w (W.setCell ⟨ga,st.length * 7+j,none⟩ (.int .i64 v)) X Y g g8 ga n c (st++ [e']) vO cells At ct tl:=by
 have el: ∀e,(st++ [e]).length=st.length+1:=fun e=>by rw[List.length_append];rfl
 obtain⟨A5,c5,A6,c6,l5,g5,l6,g6,hcc,hfr⟩:=h.last;obtain⟨ga0,gag,gaY⟩:=h.gaY;have hap:=Kd.N_seg h.tw.2 (st.length:Int) (by omega) (by rw[el];omega) (c:= [Value.int .i64 e.f0,.int .i64 e.f1,.int .i64 e.f2,.int .i64 e.f3.f0,.bool e.f3.f1,.slice A5 e.f3.f2.length c5,.slice A6 e.f3.f3.length c6]) (seg:= [.int .i64 v]) (j:=j) (x':=e') (okp:=fun k=>(w0.heap.size≤k∧k≠g∧Y k)∧k≠ga) rfl (fun j u hu=>by rw[Int.toNat_natCast];exact hcc j u hu) (by rcases hj with ⟨rfl,_⟩ | ⟨rfl,_⟩<;>(simp only[List.length_cons,List.length_nil];show _≤7;omega)) (by
  rcases hj with ⟨rfl,rfl⟩ | ⟨rfl,rfl⟩
  ·exact k81_mkF W _ ⟨e.f0,v,e.f2,e.f3⟩ l5 g5 l6 g6
  ·exact k81_mkF W _ ⟨e.f0,e.f1,v,e.f3⟩ l5 g5 l6 g6) (fun k hk=>hk)
 rw[Int.toNat_natCast]at hap;obtain⟨hN,_⟩:=hap;have hx:(st++ [e]).set st.length e'=st++ [e'] :=by simp
 rw[hx,el]at hN;have hN':Kd.N k81 81 (W.setCell ⟨ga,st.length * 7+j,none⟩ (.int .i64 v)) w0.heap.size (fun k=>w0.heap.size≤k∧k≠g∧Y k) (.slice (some ⟨ga,0,none⟩) (st.length+1) c) (st++ [e']):=hN;have hfar: ∀k,k≠ga→(W.setCell ⟨ga,st.length * 7+j,none⟩ (.int .i64 v)).heap[k]? =W.heap[k]?:=fun k hk=>Below.heap_setCell _ _ _ k hk
 have htw:=h.tw.1;rw[el]at htw;refine⟨⟨by rw[el];exact(hfar g (Ne.symm gag)).trans htw,by rw[el];exact hN'⟩,(hfar g8 (fun e=>h.n8.1 (e▸gaY))).trans h.k8,h.n8,Kd.R_step h.row (fun k ho _=>hfar k (fun e=>ho.2 (e▸gaY))),below_set h.below ga0,⟨Nat.le_trans h.kept.1 (by simp[World.setCell]),fun k hk hn=>(hfar k (fun e=>?_)).trans (h.kept.2 k hk hn)⟩,h.hY,h.hg⟩;subst e;rcases h.hY k gaY with h1|h1
 ·exact hn (.inr h1)
 ·omega
end
theorem tape_writer_copied.calls(X:Nat→Prop)(g:Nat)(n:Int)(A:Option Addr)(c:Nat)(steps:List S81)(vO:Value)(n0:Nat)(As:Option Addr)(cs:Nat)(ss:List S81)(Ao:Option Addr)(lo co:Nat)(q:List S81×List Int)(w0 w:World)(hG:HasT w0)(hB:Below w0.heap.size w0 w)(hg:w0.heap.size≤g)(hT:TWat w0 w X g n A c steps vO)(hX: ∀k,X k→k< w.heap.size)
  (hss:Kd.C k81 w0 As ss.length ss) (hcs:ss.length≤cs) (hn0:n0≤ss.length) (hlen:ss.length≤100000) (h:copyGo (ss.drop n0) (rangeI n0) steps=some q):
  Calls Tryz.prog 70 #[.pointer (some ⟨g,0,none⟩),.agg #[.int .i64 n0,.slice As ss.length cs,.slice Ao lo co]] w fun e w'=> ∃A9 c9 Y A' c',e= .returned (.slice A9 q.2.length c9)∧Below w0.heap.size w0 w'∧Kept w w' (fun k=>k=g∨X k)∧(∀k,Y k→(X k∨w.heap.size≤k)∧k< w'.heap.size)∧TWat w0 w' Y g n A' c' q.1 vO∧Kd.R (Kd.int .i64) 3 w' w0.heap.size (fun k=>w.heap.size≤k∧ ¬Y k) (.slice A9 q.2.length c9) q.2:=by
 have hu81:=Tryz.underlying81;have hu98:=Tryz.underlying98;have hu25:=Tryz.underlying25;have hu59:=Tryz.underlying59;have HB:=aM hB;have HT:=aM hT;have HX:=aM hX;have HQ:=aM h;have HG:=aM hG;have HS:=aM (And.intro hss hcs);clear hB hT hX h hG hss;go_enter Tryz.func70,Tryz.ntmps70
 go_wp2_with ((with_reducible refine gD 3 ?_);refine bx_ 3 #[.int .i64 n0,.slice As ss.length cs,.slice Ao lo co] 25 ?_;intro g3 hg3 w3 hbox hb;have G3:=aM hg3;have K3:=aM hbox;have HB3:=aM hb;have y1:=blk_cell K3.out 0;clear hg3 hbox hb)
 go_loopg [5,13] n0 (fun gg v5 v13 wl=> ∃ (i:Nat) (At:Option Addr) (ct:Nat),i≤n0∧n0 - i≤gg∧v13= .int .i64 i∧v5= .slice At i ct∧Aside0 (Below w3.heap.size w3 wl)∧Aside0 (Kd.R (Kd.int .i64) 3 wl w3.heap.size (fun _=>True) (.slice At i ct) (rangeI i)))
 case atStart=>exact⟨0,none,0,Nat.zero_le _,by omega,rfl,rfl,⟨Below.refl _ _⟩,⟨Kd.R_nil _ _ _ _ _⟩⟩
 case round=>
  obtain⟨i,At,ct,hi,hgi,rfl,rfl,HBl,HRl⟩:=hrel;by_cases hlt:i< n0
  ·have hltz:(i:Int)< (n0:Int):=by omega
   have HIL:=sF ((rangeI i).length≤100000) (by rw[rangeI_len];omega);go_wp2_with ((with_reducible refine gate_builtin (b:= .append) (xs:= #[.tmp 16,.tmp 18]) rfl ?_);at_builtin;refine Kd.R_append (Kd.int .i64) (w0:=w3) w3.heap.size rfl (.tmp 16) (.tmp 18) 23 3 (.int .i64 0) 8 rfl Tryz.underlying23 infoIntT rfl (by decide) (by omega) (.slice At i ct) (rangeI i) (i:Int) [.int .i64 i] (fun _=>True) (fun _=>False) rfl rfl ?aP (fun _ hk=>hk.elim) ?aF ?aO ?aB ?aS ?aL ?_;(case aP=>exact rfl);(case aB=>exact HBl.out);(case aF=>exact(fun _ _=>trivial));(case aO=>exact HRl.out);(case aS=>exact HBl.out.size);(case aL=>have:=HIL.out;omega);intro v19 w19 ho hb _ _;rw[←rangeI_succ]at ho;obtain⟨A19,c19,e19⟩:=Kd.R_slice ho;subst e19;have HO:=sF (Kd.R (Kd.int .i64) 3 w19 w3.heap.size (fun _=>True) (.slice A19 (i+1) c19) (rangeI (i+1))) (by have h_:=ho;rw[rangeI_len]at h_;exact h_);have HB19:=aM hb;rw[rangeI_len];clear ho hb)
   go_roundg (n0 - (i+1))
   case measure=>omega
   case rel=>exact⟨i+1,A19,c19,by omega,by omega,by go_num,rfl,HB19,HO⟩
  ·have hltz: ¬ (i:Int)< (n0:Int):=by omega
   obtain rfl:i=n0:=by omega
   obtain⟨wl,hwl⟩: ∃wl:World,wl=wr:=⟨_,rfl⟩;subst hwl;have K3l:=aM (blk_below K3.out HBl.out);obtain⟨y1,_,y2,_,y3,_⟩:=c3Q K3l.out;have hsl:=slice_fromT As ss.length cs (i:Int) (by omega) (by omega) wl;obtain⟨Bd,hBd⟩: ∃B,B=(if cs=(i:Int).toNat then As else As.map (·.add ((i:Int).toNat * 7))):=⟨_,rfl⟩;obtain⟨dd,hdd⟩: ∃d,d=cs - (i:Int).toNat:=⟨_,rfl⟩;obtain⟨sd,hsd⟩: ∃sd,sd=ss.drop i:=⟨_,rfl⟩;have HQd:=sF (Kd.C k81 w0 Bd sd.length sd∧sd.length≤dd) (by rw[hsd,hBd,hdd];exact⟨Kd.C_drop HS.out.1 (by omega) HS.out.2,by rw[List.length_drop];have:=HS.out.2;omega⟩);rw[←hBd,←hdd,show ss.length - (i:Int).toNat=sd.length from by rw[hsd,List.length_drop,Int.toNat_natCast]]at hsl;have HQ2:=sF (copyGo sd (rangeI i) steps=some q) (by rw[hsd];exact HQ.out);have HSL:=sF (sd.length≤100000∧i≤100000) (⟨by rw[hsd,List.length_drop];omega,by omega⟩);have HBw:=sF (Below w.heap.size w wl) ((HB3.out.trans (HBl.out.mono HB3.out.size)));have HB0:=sF (Below w0.heap.size w0 wl) (HB.out.trans (HBw.out.mono HB.out.size));have hs3:w.heap.size≤w3.heap.size:=HB3.out.size;have hsw:w.heap.size≤wl.heap.size:=HBw.out.size;have HTl:=aM (HT.out.below HBw.out);have HRT:=aM (show Kd.R (Kd.int .i64) 3 wl w0.heap.size (fun k=>w.heap.size≤k∧ ¬X k) (.slice At (rangeI i).length ct) (rangeI i)from by
    rw[rangeI_len];exact Kd.R_lower (Kd.R_mono (Kd.R_bound HRl.out) (fun k hk=>⟨Nat.le_trans hs3 hk.2.1,fun hx=>by have:=HX.out k hx;have:=hk.2.1;omega⟩)) (Nat.le_trans HB.out.size hs3))
   have HKl:=sF (Kept w wl (fun k=>k=g∨X k)) (⟨hsw,fun j hj _=>HBw.out.block j hj⟩);have HYl:=sF (∀k,X k→(X k∨w.heap.size≤k)∧k< wl.heap.size) (fun k hk=>⟨.inl hk,Nat.lt_of_lt_of_le (HX.out k hk) hsw⟩);clear HRl HBl HQ hs3 hBd hdd hsd;go_wp2_with fail
   clear y1 y2 y3 hsl K3l K3 HB3 G3 hltz hlt hgi HBw hsw;go_loopg [5,27] sd.length (fun gg v5 v27 wl=> ∃ (j:Nat) (At:Option Addr) (ct:Nat) (tl:List Int) (st:List S81) (Y:Nat→Prop) (Al:Option Addr) (cl:Nat),j≤sd.length∧sd.length - j≤gg∧v27= .int .i64 j∧v5= .slice At tl.length ct∧Aside0 (copyGo (sd.drop j) tl st=some q)∧Aside0 (tl.length=i+j)∧Aside0 (Below w0.heap.size w0 wl)∧Aside0 (Kept w wl (fun k=>k=g∨X k))∧Aside0 (∀k,Y k→(X k∨w.heap.size≤k)∧k< wl.heap.size)∧Aside0 (TWat w0 wl Y g n Al cl st vO)∧Aside0 (Kd.R (Kd.int .i64) 3 wl w0.heap.size (fun k=>w.heap.size≤k∧ ¬Y k) (.slice At tl.length ct) tl))
   case atStart=>exact⟨0,At,ct,rangeI i,steps,X,A,c,Nat.zero_le _,by omega,rfl,by rw[rangeI_len],HQ2,⟨by rw[rangeI_len,Nat.add_zero]⟩,HB0,HKl,HYl,HTl,HRT⟩
   case round=>
    clear HRT HTl HYl HKl HB0 HQ2;obtain⟨j,At,ct,tl,st,Y,Al,cl,hj,hgj,rfl,rfl,HL,HLen,HBl,HKl,HYl,HTl,HRl⟩:=hrel;obtain⟨wl,hwl⟩: ∃wl:World,wl=wr:=⟨_,rfl⟩;subst hwl;by_cases hlt:j< sd.length
    ·have hltz:(j:Int)< (sd.length:Int):=by omega
     have HLT:=sF (j+1≤sd.length) (hlt);have HJN:=sF (Value.int .i64 (wrap64 ((j:Int) +1))=Value.int .i64 ((j+1:Nat):Int)) (by have:=HSL.out.1;congr 1;unfold wrap64;omega);obtain⟨ad,A5,c5,A6,c6,e0,x0,x1,x2,x3,x4,x5,x6,l5,q5,l6,q6⟩:=at_T81 HQd.out.1 (j:Int) (by omega) hltz;subst e0;replace x0:=cE HBl.out x0;replace x1:=cE HBl.out x1;replace x2:=cE HBl.out x2;replace x3:=cE HBl.out x3;replace x4:=cE HBl.out x4;replace x5:=cE HBl.out x5;replace x6:=cE HBl.out x6;have hx:rd_T81 sd (j:Int)=sd[j] :=by unfold rd_T81;rw[Int.toNat_natCast];simp[hlt]
     obtain⟨s,hs⟩: ∃s,s=sd[j] :=⟨_,rfl⟩;rw[hx,←hs]at x0 x1 x2 x3 x4 x5 x6 l5 q5 l6 q6;rw[Int.toNat_natCast]at x0 x1 x2 x3 x4 x5 x6;have hd:sd.drop j=s::sd.drop (j+1):=by rw[hs];exact List.drop_eq_getElem_cons hlt
     have hL:=HL.out;rw[hd,copyGo]at hL;obtain⟨ps,HPS,hL⟩:=bO hL;obtain⟨a,HA,hL⟩:=bO hL;obtain⟨b,HB_,hL⟩:=bO hL;obtain⟨x,HXX,hL⟩:=bO hL;obtain⟨y,HYY,hL⟩:=bO hL;obtain⟨hst,hL⟩:=iN hL;have HL':=aM hL;have HQ5:=aM (And.intro q5 l5);have HQ6:=aM (And.intro q6 l6);clear hL HL hd hs hx l5 q5 l6 q6;go_upto_region 10 with (first
      | ((with_reducible refine gD 8 ?_);refine bx_ 8 #[.int .i64 0,.int .i64 0,.int .i64 0,.int .i64 0,.bool false,.slice none 0 0,.slice none 0 0] 81 ?_;intro g8 hg8 w8 hbox hb;have G8:=aM (show wl.heap.size≤g8 by rw[hg8];exact Nat.le_refl _);have K8:=aM hbox;have HB8:=aM hb;clear hg8 hbox hb;replace x0:=cE HB8.out x0;replace x1:=cE HB8.out x1;replace x2:=cE HB8.out x2;replace x3:=cE HB8.out x3;replace x4:=cE HB8.out x4;replace x5:=cE HB8.out x5;replace x6:=cE HB8.out x6;obtain⟨z1,z2,z3,z4,z5,z6,z7⟩:=c7Q K8.out;obtain⟨f1,f2,f3,f4,f5,f6,f7⟩:=c7Z K8.out))
     generalize hq_:World.setCell (World.setCell (World.setCell (World.setCell (World.setCell (World.setCell (World.setCell w8 ⟨g8,0,none⟩ (.int .i64 s.f0)) ⟨g8,1,none⟩ (.int .i64 s.f1)) ⟨g8,2,none⟩ (.int .i64 s.f2)) ⟨g8,3,none⟩ (.int .i64 s.f3.f0)) ⟨g8,4,none⟩ (.bool s.f3.f1)) ⟨g8,5,none⟩ (.slice A5 s.f3.f2.length c5)) ⟨g8,6,none⟩ (.slice A6 s.f3.f3.length c6)=w9;have K9:=aM (hq_▸blk7 K8.out (.int .i64 s.f0) (.int .i64 s.f1) (.int .i64 s.f2) (.int .i64 s.f3.f0) (.bool s.f3.f1) (.slice A5 s.f3.f2.length c5) (.slice A6 s.f3.f3.length c6):w9.heap[g8]? =some (.cells #[.int .i64 s.f0,.int .i64 s.f1,.int .i64 s.f2,.int .i64 s.f3.f0,.bool s.f3.f1,.slice A5 s.f3.f2.length c5,.slice A6 s.f3.f3.length c6] 81 (0,0)));have HB9:=aM (hq_▸below7 HB8.out G8.out (.int .i64 s.f0) (.int .i64 s.f1) (.int .i64 s.f2) (.int .i64 s.f3.f0) (.bool s.f3.f1) (.slice A5 s.f3.f2.length c5) (.slice A6 s.f3.f3.length c6):Below wl.heap.size wl w9);clear hq_ K8 HB8 x0 x1 x2 x3 x4 x5 x6 z1 z2 z3 z4 z5 z6 z7 f1 f2 f3 f4 f5 f6 f7;obtain⟨z1,z2,z3,z4,z5,z6,z7⟩:=c7Q K9.out;have HB9w:=aM (HBl.out.trans (HB9.out.mono HBl.out.size));go_upto_region 12 with (first
      | (go_at_call 127;(with_reducible refine(trace_Parts.calls s.f0 s.f1 s.f2 s.f3.f0 s.f3.f1 _ _ ps _ (HG.out.below HB9w.out) HPS.out).mono ?_);rintro e_ w10 ⟨v10,rfl,ho,hb⟩;have HB10:=aM hb;obtain⟨A10,c10,e10⟩:=Kd.R_slice ho;subst e10;have HO10:=aM ho;have K10:=aM (blk_below K9.out hb);have z1':=blk_cell K10.out 0;have HBX:=sF (Below wl.heap.size wl w10) (HB9.out.trans (hb.mono HB9.out.size));have HB10w:=aM (HBl.out.trans (HBX.out.mono HBl.out.size));have HT10:=sF (TWat w0 w10 (fun k=>Y k∨w10.heap.size≤k) g n Al cl st vO) ((HTl.out.below HBX.out).mono (fun k hk _=> .inl hk));clear ho hb)
      | (go_at_call 72;(with_reducible refine(tape_writer_add.calls (fun k=>Y k∨w10.heap.size≤k) g n Al cl st vO s.f0 0 0 w0 w10 HB10w.out hg HT10.out (fun k hk=> .inr hk) hst).mono ?_);rintro e_ w11 ⟨rfl,hb,hk,A11,c11,ht⟩;have HB11:=aM hb;have HK11:=aM hk;have HT11:=aM ht;clear hb hk ht))
     have hgw:g< w.heap.size:=blk_lt HT.out.1;have hgl:g< wl.heap.size:=blk_lt HTl.out.1;have hg8l:g8< w10.heap.size:=blk_lt K10.out;have hwlw:w.heap.size≤wl.heap.size:=HKl.out.1;have hlX:wl.heap.size≤w10.heap.size:=HBX.out.size;have h9X:wl.heap.size≤w9.heap.size:=HB9.out.size;have HYn:=sF (∀k,wl.heap.size≤k→k< w10.heap.size→ ¬ (k=g∨(Y k∨w10.heap.size≤k))) (fun k h1 h2 e=>e.elim (fun e=>by omega) (fun e=>e.elim (fun e=>by have:=(HYl.out k e).2;omega) (fun e=>by omega)));have K11:=sF (w11.heap[g8]? =some (.cells #[.int .i64 s.f0,.int .i64 s.f1,.int .i64 s.f2,.int .i64 s.f3.f0,.bool s.f3.f1,.slice A5 s.f3.f2.length c5,.slice A6 s.f3.f3.length c6] 81 (0,0))) ((HK11.out.2 g8 hg8l (HYn.out g8 G8.out hg8l)).trans K10.out);have HO11:=sF (Kd.R (Kd.int .i64) 3 w11 w9.heap.size (fun _=>True) (.slice A10 ps.length c10) ps) (Kd.R_mono (Kd.R_step (Kd.R_bound HO10.out) (fun k hk hl=>HK11.out.2 k hl (HYn.out k (Nat.le_trans h9X hk.2.1) hl))) (fun _ _=>trivial));have HR11:=sF (Kd.R (Kd.int .i64) 3 w11 w0.heap.size (fun k=>(w.heap.size≤k∧ ¬Y k)∧k< wl.heap.size) (.slice At tl.length ct) tl) (Kd.R_step (Kd.R_below (Kd.R_mono (Kd.R_bound HRl.out) (fun k hk=>⟨hk.1,hk.2.2.1⟩)) HBX.out) (fun k hk hl=>HK11.out.2 k hl (fun e=>e.elim (fun e=>by have:=hk.1.1;omega) (fun e=>e.elim hk.1.2 (fun e=>by have:=hk.2;omega)))));have HKw:=sF (Kept w w11 (fun k=>k=g∨X k)) (⟨Nat.le_trans hwlw (Nat.le_trans hlX HK11.out.1),fun k hk hn=>((HK11.out.2 k (by omega) (fun e=>e.elim (fun e=>hn (.inl e)) (fun e=>e.elim (fun e=>(HYl.out k e).1.elim (fun e=>hn (.inr e)) (fun e=>by omega)) (fun e=>by omega)))).trans (HBX.out.block k (by omega))).trans (HKl.out.2 k hk hn)⟩);have el:(st++ [stepOf s.f0 0 0]).length=st.length+1:=by rw[List.length_append];rfl
     obtain⟨ga,cap,ea,hga0,hga1,cs_,hcs⟩:=Kd.N_form HT11.out.2 (by rw[el];omega);obtain⟨ea1,ea2,ea3⟩:A11=some ⟨ga,0,none⟩∧True∧c11=cap:=by injection ea with h1 h2 h3;exact⟨h1,trivial,h3⟩
     subst ea1;obtain⟨cc,hcl,hFK,hcc,hfr⟩:=Kd.N_elem HT11.out.2 (stepOf s.f0 0 0) (st.length:Int) (by omega) (by rw[el];omega);have hgag:ga≠g:=(HT11.out.2.1 ga (by simp[Value.ownBlock])).2.1;have hgaX:Y ga∨w10.heap.size≤ga:=(HT11.out.2.1 ga (by simp[Value.ownBlock])).2.2;have hx9:(st++ [stepOf s.f0 0 0]).getD st.length (stepOf s.f0 0 0)=stepOf s.f0 0 0:=by rw[List.getD_eq_getElem?_getD,List.getElem?_append_right (Nat.le_refl _),Nat.sub_self];rfl
     rw[Int.toNat_natCast]at hFK hcc hfr;rw[hx9]at hFK;obtain⟨B5,b5,B6,b6,hcc0,_,_,_,_⟩:=k81_openF hFK;have hcc1: ∀j u,cc[j]? =some u→w11.cell? ⟨ga,st.length * 7+j,none⟩=some u:=hcc;have hfr1: ∀j,w11.frozen? ⟨ga,st.length * 7+j,none⟩=false:=hfr;have HTH:=aM (show∀ {W:World},Below w11.heap.size w11 W→ ∀j:Nat,j< 7→(W.cell? ⟨ga,st.length * 7+j,none⟩).isSome=true∧W.frozen? ⟨ga,st.length * 7+j,none⟩=false from fun{W} hb j hj=>by
      have hjc:j< cc.length:=by rw[hcl];exact hj
      refine⟨?_,(hb.frozen (p:=⟨ga,st.length * 7+j,none⟩) hga1).trans (hfr1 j)⟩;rw[cE hb (hcc1 j cc[j] (List.getElem?_eq_getElem hjc))];rfl)
     have q2:=blk_cell (blk_drew HT11.out.1) 1;rw[el]at q2;have qz5:=blk_cell (blk_drew K11.out) 4;have qz6:=blk_cell (blk_drew K11.out) 5;have qz7:=blk_cell (blk_drew K11.out) 6;have hlt1:(st.length:Int)< (st.length:Int) +1:=by omega
     clear hcc hfr ea ea2 ea3 hx9 z1 z2 z3 z4 z5 z6 z7 z1';refine start_ (n:=21) (S:=fun w'=>w'.cell? ⟨g,1,none⟩=some (.slice (some ⟨ga,0,none⟩) (st.length+1) c11)∧w'.cell? ⟨g8,4,none⟩=some (.bool s.f3.f1)∧w'.cell? ⟨g8,5,none⟩=some (.slice A5 s.f3.f2.length c5)∧w'.cell? ⟨g8,6,none⟩=some (.slice A6 s.f3.f3.length c6)) (ds:= [20]) (M_ 21 0) (by kernel_rfl) rfl (by kernel_rfl) ⟨q2,qz5,qz6,qz7⟩ (fun hHeld=>?_);refine pu_ 0 (some 37) (M_ 21 1) ?_;refine pu_ 1 (some 38) (M_ 21 3) ?_;refine pu_ 2 (some 39) (M_ 21 7) ?_;refine pu_ 3 (some 40) (M_ 21 15) ?_;refine pu_ 5 (some 42) (M_ 21 47) ?_;refine pu_ 6 (some 43) (M_ 21 111) ?_;refine pu_ 7 (some 44) (M_ 21 239) ?_;refine pu_ 9 (some 46) (M_ 21 751) ?_;refine pu_ 10 (some 47) (M_ 21 1775) ?_;refine pu_ 13 (some 50) (M_ 21 9967) ?_;refine pu_ 14 (some 51) (M_ 21 26351) ?_;refine ta_ 4 (some 41) (M_ 21 26367) hHeld ?_;refine ta_ 8 (some 45) (M_ 21 26623) hHeld ?_;refine ta_ 11 (some 48) (M_ 21 28671) hHeld ?_;refine ta_ 15 (some 52) (M_ 21 61439) hHeld ?_;refine one_ (i:=12) (N:=some 49) (M_ 21 65535) rfl rfl (by kernel_rfl) (by decide) (fun K hK=>?_);refine goes_ Tryz.func92 (by kernel_rfl) rfl #[.slice A5 s.f3.f2.length c5] (by rfl) rfl rfl (by simp only[List.map_toArray,List.map_cons,List.map_nil];rfl) ?_;(with_reducible refine(slices_Clone_uint32_uint32.calls A5 c5 s.f3.f2 x _ (Kd.C_below HQ5.out.1 (below_drew1 HB11.out)) HQ5.out.2 HXX.out).mono ?_);rintro e w12 ⟨v12,rfl,hr,hb⟩;refine⟨_,rfl,?_⟩;have HBd:=aM hb;have HB12:=sF (Below w11.heap.size w11 w12) (below_step (below_drew1 (Below.refl _ _)) hb);obtain⟨A12,c12,e12⟩:=Kd.R_slice hr;subst e12;have HV12:=aM hr;clear hr hb;refine hK.out _ _ ⟨cE HBd.out hHeld.1,cE HBd.out hHeld.2.1,cE HBd.out hHeld.2.2.1,cE HBd.out hHeld.2.2.2⟩ (fun hHeld=>?_);clear hK K;refine no_ 49 ?_;refine one_ (i:=16) (N:=some 53) (M_ 21 131071) rfl rfl (by kernel_rfl) (by decide) (fun K hK=>?_);refine goes_ Tryz.func92 (by kernel_rfl) rfl #[.slice A6 s.f3.f3.length c6] (by rfl) rfl rfl (by simp only[List.map_toArray,List.map_cons,List.map_nil];rfl) ?_;(with_reducible refine(slices_Clone_uint32_uint32.calls A6 c6 s.f3.f3 y _ (Kd.C_below HQ6.out.1 (HB11.out.trans (HB12.out.mono HB11.out.size))) HQ6.out.2 HYY.out).mono ?_);rintro e w13 ⟨v13,rfl,hr,hb⟩;refine⟨_,rfl,?_⟩;have HBd:=aM hb;have HB13:=sF (Below w11.heap.size w11 w13) (below_step HB12.out hb);obtain⟨A13,c13,e13⟩:=Kd.R_slice hr;subst e13;have HV13:=aM hr;have HB23:=aM hb;clear hr hb;refine hK.out _ _ ⟨cE HBd.out hHeld.1,cE HBd.out hHeld.2.1,cE HBd.out hHeld.2.2.1,cE HBd.out hHeld.2.2.2⟩ (fun hHeld=>?_);clear hK K;refine no_ 53 ?_;refine pu_ 17 (some 54) (M_ 21 262143) ?_;refine pu_ 18 (some 55) (M_ 21 524287) ?_;refine pu_ 19 (some 56) (M_ 21 1048575) ?_;refine last_ (i:=20) (N:=none) (M_ 21 2097151) rfl rfl (by kernel_rfl) (by decide) (fun K hK=>?_);rw[if_pos (by rfl)];refine wp_store_mid 59 (.tmp 56) (.tmp 54) rfl ga (st.length * 7+3) #[.int .i64 0,.bool s.f3.f1,.slice A12 x.length c12,.slice A13 y.length c13] rfl rfl (fun j hj=>by have hj4:j< 4:=hj;have e:st.length * 7+3+j=st.length * 7+ (j+3):=(by omega);rw[e];exact HTH.out HB13.out (j+3) (by omega)) (by kernel_rfl) (by simp[Value.oneCell']) ?_;refine hK.out _ _ ?_;clear hK K;refine done_ (by kernel_rfl) ?_;clear q2 qz5 qz6 qz7;have hap:=Kd.N_seg (Kd.N_below HT11.out.2 HB13.out) (st.length:Int) (by omega) (by rw[el];omega) (c:=cc) (seg:= [.int .i64 0,.bool s.f3.f1,.slice A12 x.length c12,.slice A13 y.length c13]) (j:=3) (x':=⟨s.f0,0,0,⟨0,s.f3.f1,x,y⟩⟩) (okp:=fun k_=>w11.heap.size≤k_) hcl (fun j u hu=>by rw[Int.toNat_natCast];exact cE HB13.out (hcc1 j u hu)) (by show 3+4≤7;omega) (by
      subst hcc0;have hv12:Kd.R (Kd.int .u32) 87 w12 w11.heap.size (fun k_=>w11.heap.size≤k_) (.slice A12 x.length c12) x:=Kd.R_mono (Kd.R_bound (show Kd.R (Kd.int .u32) 87 w12 w11.heap.size (fun _=>True) (.slice A12 x.length c12) x from HV12.out)) (fun k_ hk=>hk.2.1);have hb23:Below w12.heap.size w12 w13:=HB23.out;have hv13:Kd.R (Kd.int .u32) 87 w13 w12.heap.size (fun k_=>w11.heap.size≤k_) (.slice A13 y.length c13) y:=Kd.R_mono (Kd.R_bound HV13.out) (fun k_ hk=>Nat.le_trans HB12.out.size hk.2.1);exact k81_mkF w13 _ ⟨s.f0,0,0,⟨0,s.f3.f1,x,y⟩⟩ (Kd.R_reads' hv12).2.1 (Kd.R_F (Kd.R_below hv12 hb23)) (Kd.R_reads' hv13).2.1 (Kd.R_F hv13)) (fun k_ hk=>⟨⟨Nat.le_trans HBl.out.size (Nat.le_trans hlX (Nat.le_trans HK11.out.1 hk)),by have:=HK11.out.1;omega,.inr (Nat.le_trans HK11.out.1 hk)⟩,by omega⟩)
     rw[Int.toNat_natCast]at hap;obtain⟨hN14,hg14⟩:=hap;have hxs:(st++ [stepOf s.f0 0 0]).set st.length ⟨s.f0,0,0,⟨0,s.f3.f1,x,y⟩⟩=st++ [⟨s.f0,0,0,⟨0,s.f3.f1,x,y⟩⟩] :=by simp
     rw[hxs,el]at hN14;generalize hq14:World.setCells w13 ga (st.length * 7+3) [.int .i64 0,.bool s.f3.f1,.slice A12 x.length c12,.slice A13 y.length c13] =w14;have HN14:=sF (Kd.N k81 81 w14 w0.heap.size (fun k=>w0.heap.size≤k∧k≠g∧(Y k∨w10.heap.size≤k)) (.slice (some ⟨ga,0,none⟩) (st.length+1) c11) (st++ [⟨s.f0,0,0,⟨0,s.f3.f1,x,y⟩⟩])) (by rw[←hq14];exact hN14);have HG14:=sF (World.grownBy w13 w14 (some ga)) (by rw[←hq14];exact hg14);clear hq14 hN14 hg14 hxs;have hs11:=HB13.out.size;have hk11:=HK11.out.1;have far14: ∀k,k< w11.heap.size→k≠ga→w14.heap[k]? =w11.heap[k]?:=fun k hk hn=>(HG14.out.block k (Nat.lt_of_lt_of_le hk hs11) (fun e=>hn (by injection e))).trans (HB13.out.block k hk)
     have hgaw:w0.heap.size≤ga:=hga0;have hCA:CopyAt w0 w w14 X (fun k=>(Y k∨w10.heap.size≤k)∧k< w14.heap.size) g g8 ga n c11 (st++ [⟨s.f0,0,0,⟨0,s.f3.f1,x,y⟩⟩]) vO #[.int .i64 s.f0,.int .i64 s.f1,.int .i64 s.f2,.int .i64 s.f3.f0,.bool s.f3.f1,.slice A5 s.f3.f2.length c5,.slice A6 s.f3.f3.length c6] At ct tl:=by
      have el2:(st++ [(⟨s.f0,0,0,⟨0,s.f3.f1,x,y⟩⟩:S81)]).length=st.length+1:=by rw[List.length_append];rfl
      have h1:=HT11.out.1;rw[el]at h1;have hg8n:=HYn.out g8 G8.out hg8l;have h8a:g8≠ga:=fun e=>hg8n (.inr (e▸hgaX))
      refine⟨?_,(far14 g8 (by omega) h8a).trans K11.out,⟨fun e=>hg8n (.inr e.1),fun e=>hg8n (.inl e)⟩,?_,⟨?_,?_,?_,?_,?_⟩,⟨?_,fun k hk hn=>?_⟩,fun k hk=>?_,hg⟩
      ·have h2:TWat w0 w14 (fun k=>Y k∨w10.heap.size≤k) g n (some ⟨ga,0,none⟩) c11 (st++ [⟨s.f0,0,0,⟨0,s.f3.f1,x,y⟩⟩]) vO:=⟨by rw[el2];exact(far14 g (by omega) (Ne.symm hgag)).trans h1,by rw[el2];exact HN14.out⟩;exact h2.mono (fun k hk hlt=>⟨hk,hlt⟩)
      ·exact Kd.R_mono (Kd.R_step HR11.out (fun k ho hl=>far14 k hl (fun e=>hgaX.elim (fun h=>ho.1.2 (e▸h)) (fun h=>by have:=ho.2;omega)))) (fun k hk=>⟨hk.1.1,fun e=>e.1.elim hk.1.2 (fun h=>by have:=hk.2;omega)⟩)
      ·exact HG14.out.os.trans (HB13.out.os.trans HB11.out.os)
      ·exact HG14.out.tape.trans (HB13.out.tape.trans HB11.out.tape)
      ·exact HG14.out.output.trans (HB13.out.output.trans HB11.out.output)
      ·exact Nat.le_trans HB11.out.size (Nat.le_trans hs11 HG14.out.size)
      ·exact fun k hk=>(far14 k (Nat.lt_of_lt_of_le hk HB11.out.size) (by omega)).trans (HB11.out.block k hk)
      ·exact Nat.le_trans HKw.out.1 (Nat.le_trans hs11 HG14.out.size)
      ·exact(far14 k (Nat.lt_of_lt_of_le hk HKw.out.1) (fun e=>by
        subst e;rcases hgaX with h|h
        ·exact(HYl.out k h).1.elim (fun h=>hn (.inr h)) (fun h=>by omega)
        ·omega)).trans (HKw.out.2 k hk hn)
      ·exact hk.1.elim (fun h=>(HYl.out k h).1) (fun h=> .inr (by omega))
     have HCA:=aM hCA;clear hCA far14 HG14 HN14 HTH HB13 HB12 HB23 HV12 HV13 hcc1 hfr1 hFK;have HTL:=aM HLen.out;have hlt1:(st.length:Int)< (st.length:Int) +1:=by omega
     go_upto_if 59 with fail
     go_cut []from 57 to 72 (fun wx=>Aside0 (CopyAt w0 w wx X (fun k=>(Y k∨w10.heap.size≤k)∧k< w14.heap.size) g g8 ga n c11 (st++ [⟨s.f0,a,0,⟨0,s.f3.f1,x,y⟩⟩]) vO #[.int .i64 s.f0,.int .i64 s.f1,.int .i64 s.f2,.int .i64 s.f3.f0,.bool s.f3.f1,.slice A5 s.f3.f2.length c5,.slice A6 s.f3.f3.length c6] At ct tl)∧Aside0 (w14.heap.size≤wx.heap.size))
     case first=>
      by_cases hp0:(ps.length:Int) >0
      ·have hps:ps.length >0:=by omega
       have h1:=HA.out;rw[if_pos hps]at h1;by_cases hin:0≤s.f1∧s.f1< (tl.length:Int)
       ·rw[if_pos hin]at h1;obtain rfl:=Option.some.inj h1;clear h1;have hi0:0≤s.f1:=hin.1;have hi1:s.f1< (tl.length:Int):=hin.2;clear hin;obtain⟨gt,capt,ea,_,_,_,_⟩:=Kd.R_form HCA.out.row (by omega);obtain⟨eaw,ecap⟩:At=some ⟨gt,0,none⟩∧ct=capt:=by injection ea with e1 e2 e3;exact⟨e1,e3⟩
        subst eaw ecap;clear ea;have q3:w14.cell? ⟨gt,s.f1.toNat,none⟩=some (.int .i64 (rd tl s.f1)):=by
         obtain⟨ad,e1,hx⟩:=Kd.at_int (Kd.R_reads' HCA.out.row).2.2 s.f1 hi0 hi1;injection e1 with e1
         subst e1;rw[add_at,Nat.zero_add]at hx;exact hx
        have q1:=blk_cell HCA.out.tw.1 1;rw[show(st++ [(⟨s.f0,0,0,⟨0,s.f3.f1,x,y⟩⟩:S81)]).length=st.length+1 from by rw[List.length_append];rfl]at q1;have q2:=blk_cell HCA.out.k8 1;obtain⟨_,_,_,_,_,_,_,_,hcc,hfr⟩:=HCA.out.last;have q4:=hcc 1 _ rfl;have q5:=hfr 1;clear hcc hfr;go_upto_region 14 with fail
        refine wp_region_still_tail 13 (by kernel_rfl) (by kernel_rfl) ?_;simp only[List.take_succ_cons,List.take_zero,List.drop_succ_cons,List.drop_zero]
        iterate 13 (refine wpStill_step (fun K hK=>?_);go_simp;refine hK _ ?_;clear hK K)
        refine wpStill_nil ?_;go_wp2_with fail
        go_meet
        exact⟨⟨(HCA.out.put (.inl ⟨rfl,rfl⟩)).drew⟩,⟨by simp[World.setCell]⟩⟩
       ·rw[if_neg hin]at h1;cases h1
      ·have hps: ¬ps.length >0:=by omega
       have h1:=HA.out;rw[if_neg hps]at h1;obtain rfl:=Option.some.inj h1;clear h1;go_wp2_with fail
       go_meet
       exact⟨HCA,⟨Nat.le_refl _⟩⟩
     case rest=>
      obtain⟨HC2,HS2⟩:=hcut;obtain⟨wd,hwd⟩: ∃wd:World,wd=wc:=⟨_,rfl⟩;subst hwd;clear HCA;go_upto_if 75 with fail
      go_cut []from 73 to 88 (fun wx=>Aside0 (CopyAt w0 w wx X (fun k=>(Y k∨w10.heap.size≤k)∧k< w14.heap.size) g g8 ga n c11 (st++ [⟨s.f0,a,b,⟨0,s.f3.f1,x,y⟩⟩]) vO #[.int .i64 s.f0,.int .i64 s.f1,.int .i64 s.f2,.int .i64 s.f3.f0,.bool s.f3.f1,.slice A5 s.f3.f2.length c5,.slice A6 s.f3.f3.length c6] At ct tl)∧Aside0 (w14.heap.size≤wx.heap.size))
      case first=>
       by_cases hp1:(ps.length:Int) >1
       ·have hps:ps.length >1:=by omega
        have h1:=HB_.out;rw[if_pos hps]at h1;by_cases hin:0≤s.f2∧s.f2< (tl.length:Int)
        ·rw[if_pos hin]at h1;obtain rfl:=Option.some.inj h1;clear h1;have hi0:0≤s.f2:=hin.1;have hi1:s.f2< (tl.length:Int):=hin.2;clear hin;obtain⟨gt,capt,ea,_,_,_,_⟩:=Kd.R_form HC2.out.row (by omega);obtain⟨eaw,ecap⟩:At=some ⟨gt,0,none⟩∧ct=capt:=by injection ea with e1 e2 e3;exact⟨e1,e3⟩
         subst eaw ecap;clear ea;have q3:wd.cell? ⟨gt,s.f2.toNat,none⟩=some (.int .i64 (rd tl s.f2)):=by
          obtain⟨ad,e1,hx⟩:=Kd.at_int (Kd.R_reads' HC2.out.row).2.2 s.f2 hi0 hi1;injection e1 with e1
          subst e1;rw[add_at,Nat.zero_add]at hx;exact hx
         have q1:=blk_cell HC2.out.tw.1 1;rw[show(st++ [(⟨s.f0,a,0,⟨0,s.f3.f1,x,y⟩⟩:S81)]).length=st.length+1 from by rw[List.length_append];rfl]at q1;have q2:=blk_cell HC2.out.k8 2;obtain⟨_,_,_,_,_,_,_,_,hcc,hfr⟩:=HC2.out.last;have q4:=hcc 2 _ rfl;have q5:=hfr 2;clear hcc hfr;go_upto_region 16 with fail
         refine wp_region_still_tail 13 (by kernel_rfl) (by kernel_rfl) ?_;simp only[List.take_succ_cons,List.take_zero,List.drop_succ_cons,List.drop_zero]
         iterate 13 (refine wpStill_step (fun K hK=>?_);go_simp;refine hK _ ?_;clear hK K)
         refine wpStill_nil ?_;go_wp2_with fail
         go_meet
         exact⟨⟨(HC2.out.put (.inr ⟨rfl,rfl⟩)).drew⟩,⟨by have:=HS2.out;simpa [World.setCell]using this⟩⟩
        ·rw[if_neg hin]at h1;cases h1
       ·have hps: ¬ps.length >1:=by omega
        have h1:=HB_.out;rw[if_neg hps]at h1;obtain rfl:=Option.some.inj h1;clear h1;go_wp2_with fail
        go_meet
        exact⟨HC2,HS2⟩
      case rest=>
       obtain⟨HC3,HS3⟩:=hcut;obtain⟨we,hwe⟩: ∃we:World,we=wc:=⟨_,rfl⟩;subst hwe;clear HC2 HS2;have htl:=HLen.out;have hsl:=HSL.out;have htl1:tl.length≤1000000:=by omega
       clear htl hsl;have HI:=sF (∀k,we.heap.size≤k→w.heap.size≤k∧ ¬ ((Y k∨w10.heap.size≤k)∧k< w14.heap.size)) (fun k hk=>⟨Nat.le_trans HC3.out.kept.1 hk,fun e=>by have:=HS3.out;omega⟩);go_wp2_with ((with_reducible refine gate_builtin (b:= .append) (xs:= #[.tmp 89,.tmp 91]) rfl ?_);at_builtin;refine Kd.R_append (Kd.int .i64) (w0:=w0) w0.heap.size rfl (.tmp 89) (.tmp 91) 23 3 (.int .i64 0) 8 rfl Tryz.underlying23 infoIntT rfl (by decide) (by omega) (.slice At tl.length ct) tl (st.length:Int) [.int .i64 st.length] (fun k=>w.heap.size≤k∧ ¬ ((Y k∨w10.heap.size≤k)∧k< w14.heap.size)) (fun _=>False) rfl rfl ?aP (fun _ hk=>hk.elim) ?aF ?aO ?aB ?aS ?aL ?_;(case aP=>exact rfl);(case aB=>exact HC3.out.below);(case aF=>exact HI.out);(case aO=>exact HC3.out.row);(case aS=>exact HC3.out.below.size);(case aL=>omega);intro v19 w19 ho hb hgr _;obtain⟨A19,c19,e19⟩:=Kd.R_slice ho;subst e19;have HO:=aM ho;have HB19:=aM hb;have HG19:=aM hgr;clear ho hb hgr)
       have hsz:=HG19.out.size;have hgw19:=HS3.out;have hown: ∀k,some k=(Value.slice At tl.length ct).ownBlock→w.heap.size≤k∧ ¬ ((Y k∨w10.heap.size≤k)∧k< w14.heap.size):=fun k hk=>HC3.out.row.1 k hk.symm
       have HT19:=aM (show TWat w0 w19 (fun k=>(Y k∨w10.heap.size≤k)∧k< w14.heap.size) g n (some ⟨ga,0,none⟩) c11 (st++ [⟨s.f0,a,b,⟨0,s.f3.f1,x,y⟩⟩]) vO from HC3.out.tw.step (fun k _ hk ho=>HG19.out.block k hk (fun e=>by
        have h1:=hown k e;rcases ho with rfl|ho
        ·omega
        ·exact h1.2 ho)) hg)
       have HK19:=sF (Kept w w19 (fun k=>k=g∨X k)) (⟨Nat.le_trans HC3.out.kept.1 hsz,fun k hk hn=>(HG19.out.block k (Nat.lt_of_lt_of_le hk HC3.out.kept.1) (fun e=>absurd (hown k e).1 (by omega))).trans (HC3.out.kept.2 k hk hn)⟩);have HY19:=sF (∀k,((Y k∨w10.heap.size≤k)∧k< w14.heap.size)→(X k∨w.heap.size≤k)∧k< w19.heap.size) (fun k hk=>⟨HC3.out.hY k hk,by have:=hk.2;omega⟩);have HLN:=sF ((tl++ [(st.length:Int)]).length=i+ (j+1)) (by have:=HLen.out;rw[List.length_append,List.length_singleton];omega);have hsl19:Value.slice A19 (tl.length+1) c19=Value.slice A19 (tl++ [(st.length:Int)]).length c19:=by rw[List.length_append,List.length_singleton]
       have HO':=sF (Kd.R (Kd.int .i64) 3 w19 w0.heap.size (fun k=>w.heap.size≤k∧ ¬ ((Y k∨w10.heap.size≤k)∧k< w14.heap.size)) (.slice A19 (tl++ [(st.length:Int)]).length c19) (tl++ [(st.length:Int)])) (HO.out);have HS19:=aM hsl19;clear hsl19 hown hsz hgw19;go_roundg (sd.length - (j+1))
       case measure=>omega
       case rel=>exact⟨j+1,A19,c19,tl++ [(st.length:Int)],(st++ [⟨s.f0,a,b,⟨0,s.f3.f1,x,y⟩⟩]),(fun k=>(Y k∨w10.heap.size≤k)∧k< w14.heap.size),some ⟨ga,0,none⟩,c11,HLT.out,Nat.le_refl _,HJN.out,HS19.out,HL',HLN,HB19,HK19,HY19,HT19,HO'⟩
    ·have hltz: ¬ (j:Int)< (sd.length:Int):=by omega
     obtain rfl:j=sd.length:=by omega
     have hL:=HL.out;rw[List.drop_length,copyGo]at hL;obtain rfl:=Option.some.inj hL;clear hL HL;go_wp2_with fail
     go_ret;exact⟨At,ct,rfl,HBl.out,HKl.out,Y,HYl.out,⟨Al,cl,HTl.out⟩,HRl.out⟩
theorem tape_less.calls(X:Nat→Prop)(g gwp gwt:Nat)(n:Int)(vO:Value)(steps:List S81)(ws:List Int)(A:Option Addr)(c:Nat)(Aw:Option Addr)(cap:Nat)(at_ by_:Int)(q:List S81×List Int)(w0 w:World)(hB:Below w0.heap.size w0 w)(hF:RevFix w0 X g gwp gwt)(hT:RevSt w0 w X g gwp gwt n vO steps ws A c Aw cap)(hX: ∀k,w.heap.size≤k→X k)(h:tLess (steps,ws) at_ by_=some q):
  Calls Tryz.prog 126 #[.int .i64 at_,.int .i64 by_,.pointer (some ⟨gwt,0,none⟩),.pointer (some ⟨gwp,0,none⟩)] w fun e w'=>e= .returned (.tuple #[])∧Below w0.heap.size w0 w'∧Kept w w' (fun k=>(k=g∨X k)∨some k=(.slice Aw ws.length cap:Value).ownBlock)∧ ∃A' c',RevSt w0 w' X g gwp gwt n vO q.1 q.2 A' c' Aw cap:=by
 have hu98:=Tryz.underlying98;have HB:=aM hB;have HT:=aM hT;have HF:=aM hF;have HX:=aM hX;unfold tLess at h;obtain⟨hat,h1⟩:=iN h;have h0:0≤at_:=hat.1;have hlt:at_< (ws.length:Int):=hat.2;obtain⟨ga,cap2,ea,hga0,hga1,cs_,hcs⟩:=Kd.R_form hT.row (by omega);obtain⟨eaw,ecap⟩:Aw=some ⟨ga,0,none⟩∧cap=cap2:=by injection ea with e1 e2 e3;exact⟨e1,e3⟩
 subst eaw ecap;obtain⟨cc,hcl,hM,hcc,hfr⟩:=Kd.R_elem hT.row (0:Int) at_ h0 hlt;have hgaX: ¬X ga∧ga≠g:=hT.row.1 ga (by simp[Value.ownBlock]);have x9:w.cell? ⟨ga,at_.toNat,none⟩=some (.int .i64 (rd ws at_)):=by
  obtain⟨ad,e1,hx⟩:=Kd.at_int (Kd.R_reads' hT.row).2.2 at_ h0 hlt;injection e1 with e1
  subst e1;rw[add_at,Nat.zero_add]at hx;exact hx
 have x9z:w.frozen? ⟨ga,at_.toNat,none⟩=false:=by have h2:=hfr 0;simpa [Kd.int,Kd.scalar]using h2
 have y1:=blk_cell hT.pt 0;have y2:=blk_cell hT.pw 0;have hlt1:gwt< w.heap.size:=blk_lt hT.pt;have hlt2:gwp< w.heap.size:=blk_lt hT.pw;have hgat:ga≠gwt:=fun e=>by subst e;rw[hT.pt]at hcs;cases hcs
 have hgap:ga≠gwp:=fun e=>by subst e;rw[hT.pw]at hcs;cases hcs
 clear h hat hM hcc hfr hcs hT hX hB hF;by_cases e:rd ws at_= -1
 ·rw[if_pos e]at h1;rw[e]at x9;obtain⟨st,hadd,h2⟩:=bO h1;obtain rfl:=Option.some.inj h2;have hadd:=hadd.out;unfold tAdd at hadd;obtain⟨hlen,hst⟩:=iN hadd;have hst':=Option.some.inj hst;clear h1 h2 hadd hst;have hlt3:ga< w.heap.size:=hga1;have hg:=HF.out.hg;have hn1: ¬ (gwt=g∨X gwt):=fun e=>e.elim HF.out.ng.2.1 HF.out.nX.2
  have hn2: ¬ (gwp=g∨X gwp):=fun e=>e.elim HF.out.ng.1 HF.out.nX.1
  have hn3: ¬ (ga=g∨X ga):=fun e=>e.elim hgaX.2 hgaX.1
  have HTd:=sF (TWat w0 w.drew X g n A c steps vO) (HT.out.tw.step (fun _ _ _ _=>rfl) hg);have HXd:=sF (∀k,w.drew.heap.size≤k→X k) (HX.out);go_enter Tryz.func126,Tryz.ntmps126
  go_upto_region 1 with fail
  have q1:w.drew.cell? ⟨gwt,0,none⟩=some (.slice (some ⟨ga,0,none⟩) ws.length cap):=y1;have q2:w.drew.cell? ⟨gwp,0,none⟩=some (.pointer (some ⟨g,0,none⟩)):=y2;have q3:w.drew.cell? ⟨ga,at_.toNat,none⟩=some (.int .i64 (-1)):=x9;have qf:w.drew.frozen? ⟨ga,at_.toNat,none⟩=false:=x9z;refine start_ (n:=7) (S:=fun w'=>w'.cell? ⟨gwt,0,none⟩=some (.slice (some ⟨ga,0,none⟩) ws.length cap)∧w'.cell? ⟨gwp,0,none⟩=some (.pointer (some ⟨g,0,none⟩))∧w'.cell? ⟨ga,at_.toNat,none⟩=some (.int .i64 (-1))) (ds:= [6]) (M_ 7 0) (by kernel_rfl) rfl (by kernel_rfl) ⟨q1,q2,q3⟩ (fun hHeld=>?_);refine pu_ 1 (some 12) (M_ 7 2) ?_;refine pu_ 3 (some 14) (M_ 7 10) ?_;refine ta_ 0 (some 11) (M_ 7 11) hHeld ?_;refine ta_ 2 (some 13) (M_ 7 15) hHeld ?_;refine one_ (i:=4) (N:=some 15) (M_ 7 31) rfl rfl (by kernel_rfl) (by decide) (fun K hK=>?_);refine goes_ Tryz.func72 (by kernel_rfl) rfl #[.pointer (some ⟨g,0,none⟩),.int .i64 7,.int .i64 by_,.int .i64 0] (by rfl) rfl rfl (by simp only[List.map_toArray,List.map_cons,List.map_nil];rfl) ?_;(with_reducible refine(tape_writer_add.calls X g n A c steps vO 7 by_ 0 w0 _ (below_drew1 HB.out) hg HTd.out HXd.out hlen).mono ?_);rintro e w9 ⟨rfl,hb,hk,A9,c9,ht⟩;refine⟨_,rfl,?_⟩;have HB9:=aM hb;have HK9:=aM hk;have HT9:=aM ht;have h1_:=kept_cell hk hlt1 hn1 hHeld.1;have h2_:=kept_cell hk hlt2 hn2 hHeld.2.1;have h3_:=kept_cell hk hlt3 hn3 hHeld.2.2;have h4_:w9.frozen? ⟨ga,at_.toNat,none⟩=false:=(kept_frozen hk hlt3 hn3).trans qf;clear hb hk ht;refine hK.out _ _ ⟨h1_,h2_,h3_⟩ (fun hHeld=>?_);clear hK K;refine no_ 15 ?_;refine pu_ 5 (some 16) (M_ 7 63) ?_;refine last_ (i:=6) (N:=none) (M_ 7 127) rfl rfl (by kernel_rfl) (by decide) (fun K hK=>?_);refine skip_ (w1:=?_) (by rfl) rfl ?_ ?_;rotate_left
  ·go_simp;rfl
  refine hK.out _ _ ?_;clear hK K;refine done_ (by kernel_rfl) ?_;go_end0
  have hst2:st=steps++ [stepOf 7 by_ 0] :=hst'.symm;subst hst2;have hK9:Kept w w9 (fun k=>k=g∨X k):=HK9.out;have hr9:Kd.R (Kd.int .i64) 3 w9 w0.heap.size (fun k=> ¬X k∧k≠g) (.slice (some ⟨ga,0,none⟩) ws.length cap) ws:=Kd.R_step HT.out.row (fun k ho hl=>hK9.2 k hl (fun e=>e.elim ho.2 ho.1));have hp:=Kd.R_putg (enc:=Value.int .i64) (h1:=fun _=>rfl) hr9 at_ (steps.length:Int);refine⟨rfl,below_set HB9.out hga0,⟨Nat.le_trans hK9.1 (by simp[World.setCell]),fun j hj hn=>?_⟩,A9,c9,HT9.out.step (fun k _ _ ho=>Below.heap_setCell _ _ _ k (by show k≠ga;exact fun e=>by subst e;exact ho.elim hgaX.2 hgaX.1)) hg,?_,?_,?_⟩
  ·exact(Below.heap_setCell _ _ _ j (by show j≠ga;exact fun e=>hn (.inr (by rw[e];rfl)))).trans (hK9.2 j hj (fun e=>hn (.inl e)))
  ·exact(Below.heap_setCell _ _ _ _ (by show gwp≠ga;exact Ne.symm hgap)).trans ((hK9.2 gwp hlt2 hn2).trans HT.out.pw)
  ·rw[List.length_set];exact(Below.heap_setCell _ _ _ _ (by show gwt≠ga;exact Ne.symm hgat)).trans ((hK9.2 gwt hlt1 hn1).trans HT.out.pt)
  ·rw[List.length_set];exact hp.1
 ·rw[if_neg e]at h1;obtain⟨st,hadd,h2⟩:=bO h1;obtain rfl:=Option.some.inj h2;have hadd:=hadd.out;unfold tAdd at hadd;obtain⟨hlen,hst⟩:=iN hadd;have hst':=Option.some.inj hst;have e0:(rd ws at_== -1)=false:=by simpa using e
  clear h1 h2 hadd hst;have hlt3:ga< w.heap.size:=hga1;have hg:=HF.out.hg;have hn1: ¬ (gwt=g∨X gwt):=fun e=>e.elim HF.out.ng.2.1 HF.out.nX.2
  have hn2: ¬ (gwp=g∨X gwp):=fun e=>e.elim HF.out.ng.1 HF.out.nX.1
  have hn3: ¬ (ga=g∨X ga):=fun e=>e.elim hgaX.2 hgaX.1
  have HTd:=sF (TWat w0 w.drew X g n A c steps vO) (HT.out.tw.step (fun _ _ _ _=>rfl) hg);have HXd:=sF (∀k,w.drew.heap.size≤k→X k) (HX.out);go_enter Tryz.func126,Tryz.ntmps126
  go_upto_region 2 with fail
  have q1:w.drew.cell? ⟨gwt,0,none⟩=some (.slice (some ⟨ga,0,none⟩) ws.length cap):=y1;have q2:w.drew.cell? ⟨gwp,0,none⟩=some (.pointer (some ⟨g,0,none⟩)):=y2;have q3:w.drew.cell? ⟨ga,at_.toNat,none⟩=some (.int .i64 (rd ws at_)):=x9;have qf:w.drew.frozen? ⟨ga,at_.toNat,none⟩=false:=x9z;refine start_ (n:=11) (S:=fun w'=>w'.cell? ⟨gwt,0,none⟩=some (.slice (some ⟨ga,0,none⟩) ws.length cap)∧w'.cell? ⟨gwp,0,none⟩=some (.pointer (some ⟨g,0,none⟩))∧w'.cell? ⟨ga,at_.toNat,none⟩=some (.int .i64 (rd ws at_))) (ds:= [10]) (M_ 11 0) (by kernel_rfl) rfl (by kernel_rfl) ⟨q1,q2,q3⟩ (fun hHeld=>?_);refine pu_ 1 (some 18) (M_ 11 2) ?_;refine pu_ 4 (some 21) (M_ 11 18) ?_;refine pu_ 7 (some 24) (M_ 11 146) ?_;refine ta_ 0 (some 17) (M_ 11 147) hHeld ?_;refine ta_ 2 (some 19) (M_ 11 151) hHeld ?_;refine ta_ 3 (some 20) (M_ 11 159) hHeld ?_;refine pu_ 5 (some 22) (M_ 11 191) ?_;refine ta_ 6 (some 23) (M_ 11 255) hHeld ?_;refine one_ (i:=8) (N:=some 25) (M_ 11 511) rfl rfl (by kernel_rfl) (by decide) (fun K hK=>?_);refine goes_ Tryz.func72 (by kernel_rfl) rfl #[.pointer (some ⟨g,0,none⟩),.int .i64 4,.int .i64 (rd ws at_),.int .i64 by_] (by rfl) rfl rfl (by simp only[List.map_toArray,List.map_cons,List.map_nil];rfl) ?_;(with_reducible refine(tape_writer_add.calls X g n A c steps vO 4 (rd ws at_) by_ w0 _ (below_drew1 HB.out) hg HTd.out HXd.out hlen).mono ?_);rintro e w9 ⟨rfl,hb,hk,A9,c9,ht⟩;refine⟨_,rfl,?_⟩;have HB9:=aM hb;have HK9:=aM hk;have HT9:=aM ht;have h1_:=kept_cell hk hlt1 hn1 hHeld.1;have h2_:=kept_cell hk hlt2 hn2 hHeld.2.1;have h3_:=kept_cell hk hlt3 hn3 hHeld.2.2;have h4_:w9.frozen? ⟨ga,at_.toNat,none⟩=false:=(kept_frozen hk hlt3 hn3).trans qf;clear hb hk ht;refine hK.out _ _ ⟨h1_,h2_,h3_⟩ (fun hHeld=>?_);clear hK K;refine no_ 25 ?_;refine pu_ 9 (some 26) (M_ 11 1023) ?_;refine last_ (i:=10) (N:=none) (M_ 11 2047) rfl rfl (by kernel_rfl) (by decide) (fun K hK=>?_);refine skip_ (w1:=?_) (by rfl) rfl ?_ ?_;rotate_left
  ·go_simp;rfl
  refine hK.out _ _ ?_;clear hK K;refine done_ (by kernel_rfl) ?_;go_end0
  have hst2:st=steps++ [stepOf 4 (rd ws at_) by_] :=hst'.symm;subst hst2;have hK9:Kept w w9 (fun k=>k=g∨X k):=HK9.out;have hr9:Kd.R (Kd.int .i64) 3 w9 w0.heap.size (fun k=> ¬X k∧k≠g) (.slice (some ⟨ga,0,none⟩) ws.length cap) ws:=Kd.R_step HT.out.row (fun k ho hl=>hK9.2 k hl (fun e=>e.elim ho.2 ho.1));have hp:=Kd.R_putg (enc:=Value.int .i64) (h1:=fun _=>rfl) hr9 at_ (steps.length:Int);refine⟨rfl,below_set HB9.out hga0,⟨Nat.le_trans hK9.1 (by simp[World.setCell]),fun j hj hn=>?_⟩,A9,c9,HT9.out.step (fun k _ _ ho=>Below.heap_setCell _ _ _ k (by show k≠ga;exact fun e=>by subst e;exact ho.elim hgaX.2 hgaX.1)) hg,?_,?_,?_⟩
  ·exact(Below.heap_setCell _ _ _ j (by show j≠ga;exact fun e=>hn (.inr (by rw[e];rfl)))).trans (hK9.2 j hj (fun e=>hn (.inl e)))
  ·exact(Below.heap_setCell _ _ _ _ (by show gwp≠ga;exact Ne.symm hgap)).trans ((hK9.2 gwp hlt2 hn2).trans HT.out.pw)
  ·rw[List.length_set];exact(Below.heap_setCell _ _ _ _ (by show gwt≠ga;exact Ne.symm hgat)).trans ((hK9.2 gwt hlt1 hn1).trans HT.out.pt)
  ·rw[List.length_set];exact hp.1
def bits_Mul64.f(a0:Int)(a1:Int):Option (Int×Int):=some (IntKind.u64.wrap ((IntKind.u64.wrap ((IntKind.u64.wrap ((a0 / 4294967296) * (a1 / 4294967296))) + ((IntKind.u64.wrap ((IntKind.u64.wrap ((a0 / 4294967296) * (Go.bits .and .u64 a1 4294967295))) + ((IntKind.u64.wrap ((Go.bits .and .u64 a0 4294967295) * (Go.bits .and .u64 a1 4294967295))) / 4294967296))) / 4294967296))) + ((IntKind.u64.wrap ((Go.bits .and .u64 (IntKind.u64.wrap ((IntKind.u64.wrap ((a0 / 4294967296) * (Go.bits .and .u64 a1 4294967295))) + ((IntKind.u64.wrap ((Go.bits .and .u64 a0 4294967295) * (Go.bits .and .u64 a1 4294967295))) / 4294967296))) 4294967295) + (IntKind.u64.wrap ((Go.bits .and .u64 a0 4294967295) * (a1 / 4294967296))))) / 4294967296)),IntKind.u64.wrap (a0 * a1))
theorem bits_Mul64.calls(a0:Int)(a1:Int)(r1:Int)(r2:Int)(w:World)(h:bits_Mul64.f a0 a1=some (r1,r2)):
  Calls Tryz.prog 195 #[.int .u64 a0,.int .u64 a1] w fun e w'=>e= .returned (.tuple #[.int .u64 r1,.int .u64 r2])∧Drawn0 w w':=by
 have H:=h;clear h;unfold bits_Mul64.f at H;simp only[Option.some.injEq,Prod.mk.injEq]at H;obtain⟨rfl,rfl⟩:=H;go_enter Tryz.func195,Tryz.ntmps195
 go_wp2
 go_ret2;exact⟨by first|rfl| (simp;done) | (simp[*];done),by repeat(first|exact Drawn0.refl _|apply Drawn0.step)⟩
def bits_Mul.f(a0:Int)(a1:Int):Option (Int×Int):=(bits_Mul64.f a0 a1).bind fun bt295=>(some (bt295.1,bt295.2))
theorem bits_Mul.calls(a0:Int)(a1:Int)(r1:Int)(r2:Int)(w:World)(h:bits_Mul.f a0 a1=some (r1,r2)):
  Calls Tryz.prog 164 #[.int .u64 a0,.int .u64 a1] w fun e w'=>e= .returned (.tuple #[.int .u64 r1,.int .u64 r2])∧Drawn0 w w':=by
 have H:=h;clear h;unfold bits_Mul.f at H;obtain⟨⟨t295,t296⟩,A3,H⟩:=bO H;(try dsimp only at H);simp only[Option.some.injEq,Prod.mk.injEq]at H;obtain⟨rfl,rfl⟩:=H;go_enter Tryz.func164,Tryz.ntmps164
 go_wp2_with (first| (refine gF 195 ?_;refine gl_ (some 25) Tryz.func195 #[.int .u64 a0,.int .u64 a1] ?_;(with_reducible refine(bits_Mul64.calls a0 a1 t295 t296 _ A3.out).mono ?_);rintro e w' ⟨rfl,⟨nd,rfl⟩⟩;refine⟨_,rfl,?_⟩))
 go_ret2;exact⟨by first|rfl| (simp;done) | (simp[*];done),by repeat(first|exact Drawn0.refl _|apply Drawn0.step)⟩
theorem wrapU{n:Nat}(h:n< 18446744073709551616):IntKind.u64.wrap (n:Int)=(n:Int):=by
 unfold IntKind.wrap;simp[IntKind.signed,IntKind.bits]
 omega
theorem and_mask{a:Nat}(ha:a< 4294967296):Go.bits .and .u64 (a:Int) 4294967295=(a:Int):=by
 have h:(BitVec.ofInt 64 (a:Int) &&& BitVec.ofInt 64 ((4294967295:Nat):Int)).toNat=a:=by
  rw[BitVec.ofInt_natCast,BitVec.ofInt_natCast,BitVec.toNat_and,BitVec.toNat_ofNat,BitVec.toNat_ofNat,Nat.mod_eq_of_lt (by omega),Nat.mod_eq_of_lt (by omega)]
  have:=Nat.and_two_pow_sub_one_eq_mod a 32
  rw[show(2:Nat) ^ 32 - 1=4294967295 from rfl]at this;rw[this];exact Nat.mod_eq_of_lt ha
 show IntKind.u64.wrap (((BitVec.ofInt 64 (a:Int) &&& BitVec.ofInt 64 ((4294967295:Nat):Int)).toNat:Nat):Int)=_
 rw[h];exact wrapU (by omega)
theorem mul_one_f{n:Nat}(h:n< 2147483648):bits_Mul.f 1 (n:Int)=some (0,(n:Int)):=by
 unfold bits_Mul.f bits_Mul64.f;rw[and_mask (by omega),show Go.bits .and .u64 1 4294967295=(1:Int)from and_mask (a:=1) (by decide)];have h1:(n:Int) / 4294967296=0:=by omega
 rw[h1,show(1:Int) / 4294967296=0 from rfl];simp only[Int.zero_mul,Int.mul_zero,Int.one_mul];have w0:IntKind.u64.wrap 0=0:=rfl;rw[wrapU (by omega),w0,h1];rfl
theorem slice_fromI(B:Option Addr)(L d:Nat)(n:Int)(h0:0≤n)(h1:n≤L)(W:World):(Instr.sliceAt 23 (.slice B L d) (some (.int .i64 n)) none none).run Tryz.prog W= .ok (.slice (if d=n.toNat then B else B.map (·.add (n.toNat * 1))) (L - n.toNat) (d - n.toNat)) W:=by
 have hs:(sizeOf 3).run Tryz.prog W= .ok 1 W:=by
  have hi:(Tryz.prog.info? 3).map (fun i=>(i.zero,i.size,i.bytes))=some (some (.int .i64 0),1,8):=by kernel_rfl
  cases e:Tryz.prog.info? 3 with
  |none=>rw[e]at hi;cases hi
  |some i=>
   rw[e]at hi;simp only[Option.map_some,Option.some.injEq,Prod.mk.injEq]at hi;simp[sizeOf,e,hi.2.1,go_sem]
   try rfl
 have he:Tryz.prog.elem 23=3:=by kernel_rfl
 have hu:Tryz.prog.underlying 23=some (.slice (Tryz.prog.elem 23)):=by rw[he];exact Tryz.underlying23
 rw[run_sliceAt_slice (h:=hu),run_slice_l (ht:=hu) (h0:=h0) (h1:=h1),he,hs];rfl
theorem slice_uptoI(g L d:Nat)(n:Nat)(h2:n≤d)(W:World):(Instr.sliceAt 23 (.slice (some ⟨g,0,none⟩) L d) none (some (.int .i64 (n:Int))) none).run Tryz.prog W= .ok (.slice (some ⟨g,0,none⟩) n d) W:=by
 have hs:(sizeOf 3).run Tryz.prog W= .ok 1 W:=by
  have hi:(Tryz.prog.info? 3).map (fun i=>(i.zero,i.size,i.bytes))=some (some (.int .i64 0),1,8):=by kernel_rfl
  cases e:Tryz.prog.info? 3 with
  |none=>rw[e]at hi;cases hi
  |some i=>
   rw[e]at hi;simp only[Option.map_some,Option.some.injEq,Prod.mk.injEq]at hi;simp[sizeOf,e,hi.2.1,go_sem]
   try rfl
 have he:Tryz.prog.elem 23=3:=by kernel_rfl
 have hu:Tryz.prog.underlying 23=some (.slice (Tryz.prog.elem 23)):=by rw[he];exact Tryz.underlying23
 rw[run_sliceAt_slice (h:=hu),run_slice_h (ht:=hu) (h0:=by omega) (h2:=by omega),he,hs];simp only[Result.andThen_ok,sliced,Int.toNat_natCast,Nat.sub_zero,Nat.zero_mul,Option.map_some];rw[add_at,Nat.add_zero];simp
theorem step_copy{P:Program}{ops:Array Oper}{o:Oper}{a:Act}{w w1:World}{K:Act→World→Prop}{Q:Exit→Act→World→Prop}{E:Prop}{v u r:Value}
  (hg:o.guard=none) (s x:Operand) (t t':TypeId) (hop:o.op=Op.call { callee:=Callee.builtin Builtin.copy,args:= #[s,x],argTypes:= #[t,t']}) (hs:a.eval s=v) (hx:a.eval x=u)
  (hrun:(Builtin.copy_ #[t,t'] o.type #[v,u]).run P w= .ok r w1) (hK:K (a.put o.dst r) w1):if Region.wanted o (yielded ops a.tmps)=true then Oper.wp P o a w K Q else E:=by
 have hw:Region.wanted o (yielded ops a.tmps)=true:=by simp[Region.wanted,hg]
 rw[if_pos hw];unfold Oper.wp;simp[execOp,hop,resolve,invoke,builtin,hs,hx,hrun,Result.andThen]
 exact hK
def curR(x:Int)(N i:Nat):List Int:=List.replicate i x++List.replicate (N - i) (0:Int)
theorem curR_len{x:Int}{N i:Nat}(h:i≤N):(curR x N i).length=N:=by unfold curR;rw[List.length_append,List.length_replicate,List.length_replicate];omega
theorem curR_set{x:Int}{N i:Nat}(h:i< N):(curR x N i).set i x=curR x N (i+1):=by
 unfold curR;rw[List.set_append_right _ _ (by rw[List.length_replicate];omega),List.length_replicate,Nat.sub_self,show N - i=(N - (i+1)) +1 from by omega,List.replicate_succ,List.set_cons_zero,List.replicate_succ' (n:=i),List.append_assoc];rfl
theorem fillR{x:Int}{N g cap base:Nat} : ∀ (k i:Nat) (W:World),i+k≤N→Kd.R (Kd.int .i64) 3 W base (fun _=>True) (.slice (some ⟨g,0,none⟩) N cap) (curR x N i)→
  Kd.R (Kd.int .i64) 3 (W.setCells g i (List.replicate k (.int .i64 x))) base (fun _=>True) (.slice (some ⟨g,0,none⟩) N cap) (curR x N (i+k))∧(∀j,j≠g→(W.setCells g i (List.replicate k (.int .i64 x))).heap[j]? =W.heap[j]?)∧Below g W (W.setCells g i (List.replicate k (.int .i64 x)))
 |0,i,W,_,h=>⟨h,fun _ _=>rfl,Below.refl _ _⟩
 |k+1,i,W,hk,h=>by
  have h1:=Kd.R_putg (enc:=Value.int .i64) (h1:=fun _=>rfl) h (i:Int) x
  rw[Int.toNat_natCast,curR_set (by omega)]at h1
  obtain⟨a,b,c⟩:=fillR k (i+1) _ (by omega) h1.1
  rw[List.replicate_succ,World.setCells,show i+ (k+1)=i+1+k from by omega]
  refine⟨a,fun j hj=>(b j hj).trans (Below.heap_setCell _ _ _ j (by show j≠g;exact hj)),?_⟩
  exact(Below.setCell (Below.refl g W) (p:=⟨g,i,none⟩) (Nat.le_refl _) _).trans c
theorem rep_first(x:Int)(N:Nat): [x].take (min 1 N) ++ (List.replicate N (0:Int)).drop (min 1 N)=List.replicate (min 1 N) x++List.replicate (N - min 1 N) (0:Int):=by
 rw[List.drop_replicate];rcases Nat.eq_zero_or_pos N with h|h
 ·subst h;rfl
 ·rw[Nat.min_eq_left h];rfl
theorem slices_Repeat_one.calls(A0:Option Addr)(c0:Nat)(x:Int)(N:Nat)(w:World)(hr:Kd.C (Kd.int .i64) w A0 1 [x])(hN:N≤1000000):
  Calls Tryz.prog 124 #[.slice A0 1 c0,.int .i64 (N:Int)] w fun e w'=> ∃v:Value,e= .returned v∧Kd.R (Kd.int .i64) 3 w' w.heap.size (fun _=>True) v (List.replicate N x)∧Below w.heap.size w w':=by
 have HR:=aM hr;have HM:=aM (mul_one_f (n:=N) (by omega));have hng: ¬ (N:Int)< 0:=by omega
 clear hr;go_enter Tryz.func124,Tryz.ntmps124
 have hinfoI:(Tryz.prog.info? 3).map (fun i=>(i.zero,i.size,i.bytes))=some (some (.int .i64 0),1,8):=by kernel_rfl
 have hsizeI:(Tryz.prog.info? 3).map (·.size)=some 1:=by kernel_rfl
 go_wp2_with (first
  | (go_at_call 164;(with_reducible refine(bits_Mul.calls 1 (N:Int) 0 (N:Int) _ HM.out).mono ?_);rintro e w' ⟨rfl,⟨nd,rfl⟩⟩)
  | (refine gD 30 ?_;refine Kd.R_make (Kd.int .i64) (w0:=w) w.heap.size 3 rfl (N:=30) rfl 23 _ _ rfl (N:Int) rfl rfl Tryz.underlying23 (.int .i64 0) 8 hinfoI rfl (by decide) (by omega) (0:Int) (ok:=fun _=>True) (okp:=fun _=>True) rfl (fun _ hk=>hk) trivial (by omega) (by omega) (pw_below_drewN (Below.refl _ _) _) (Nat.le_refl _) ?_;intro v30 w30 ho hb hg_ hat_;rw[Int.toNat_natCast]at ho;have HB:=aM hb;obtain⟨A30,c30,e30⟩:=Kd.R_slice ho;subst e30;have HO:=sF (Kd.R (Kd.int .i64) 3 w30 w.heap.size (fun _=>True) (.slice A30 N c30) (List.replicate N (0:Int))) (by have h_:=ho;rw[List.length_replicate]at h_;exact h_);clear ho hb hg_ hat_)
  | ((with_reducible refine gate_builtin (b:= .copy) (xs:= #[.tmp 31,.tmp 32]) rfl ?_);refine Kd.R_copy (enc:=Value.int .i64) (h1:=fun _=>rfl) (0:Int) (w0:=w) w.heap.size rfl (.tmp 31) (.tmp 32) 23 23 3 rfl Tryz.underlying23 hsizeI (.slice A30 N c30) (List.replicate N (0:Int)) [x] A0 1 c0 (fun _=>True) rfl rfl ?aO ?aR ?aB ?aS ?_;(case aO=>exact HO.out);(case aR=>exact Kd.C_below HR.out HB.out);(case aB=>exact HB.out);(case aS=>exact HB.out.size);intro w33 ho hb hg;have HO3:=sF (Kd.R (Kd.int .i64) 3 w33 w.heap.size (fun _=>True) (.slice A30 N c30) (List.replicate (min 1 N) x++List.replicate (N - min 1 N) (0:Int))) (by have h_:=ho;rw[List.length_replicate,rep_first]at h_;exact h_);have HB3:=aM hb;clear ho hb hg))
 go_loopg [8] N (fun gg v8 wl=> ∃i:Nat,i≤N∧(0< N→0< i)∧N - i≤gg∧v8= .int .i64 i∧Aside0 (Below w.heap.size w wl)∧Aside0 (Kd.R (Kd.int .i64) 3 wl w.heap.size (fun _=>True) (.slice A30 N c30) (curR x N i)))
 case atStart=>exact⟨min 1 N,by omega,by omega,by omega,rfl,HB3,HO3⟩
 case round=>
  clear HO3 HB3 HO HB;obtain⟨i,hi,hi0,hgi,rfl,HBl,HRl⟩:=hrel;by_cases hlt:i< N
  ·have hltz:(i:Int)< (N:Int):=by omega
   have hcl:=curR_len (x:=x) hi;obtain⟨ga,cap2,ea,hga0,hga1,cs_,hcs⟩:=Kd.R_form HRl.out (by rw[hcl];omega);rw[hcl]at ea;obtain⟨eaw,ecap⟩:A30=some ⟨ga,0,none⟩∧c30=cap2:=by injection ea with e1 e2 e3;exact⟨e1,e3⟩
   subst eaw ecap;have hcap:N≤c30:=(Kd.R_reads' HRl.out).2.1;obtain⟨k,hk⟩: ∃k,k=min i (N - i):=⟨_,rfl⟩;have hsl1:=slice_fromI (some ⟨ga,0,none⟩) N c30 (i:Int) (by omega) (by omega) wr.drew;rw[Int.toNat_natCast,if_neg (by omega),show Option.map (fun z:Addr=>z.add (i * 1)) (some ⟨ga,0,none⟩)=some ⟨ga,i,none⟩from by simp only[Option.map_some];rw[add_at,Nat.zero_add,Nat.mul_one]]at hsl1;have hsl2:=slice_uptoI ga N c30 i (by omega) wr.drew;have hcell: ∀j,j< N→wr.cell? ⟨ga,j,none⟩=some (.int .i64 (rd (curR x N i) (j:Int))):=fun j hj=>by
    obtain⟨ad,e1,hx⟩:=Kd.at_int (Kd.R_reads' HRl.out).2.2 (j:Int) (by omega) (by omega);injection e1 with e1
    subst e1;rw[Int.toNat_natCast,add_at,Nat.zero_add]at hx;exact hx
   have hrd: ∀j,j< i→rd (curR x N i) (j:Int)=x:=fun j hj=>by
    unfold rd curR;rw[Int.toNat_natCast,List.getD_eq_getElem?_getD,List.getElem?_append_left (by rw[List.length_replicate];exact hj),List.getElem?_replicate,if_pos hj];rfl
   have hcp:=run_copy_cells (P:=Tryz.prog) wr.drew 23 23 3 3 ga i (N - i) (c30 - i) ⟨ga,0,none⟩ i c30 (List.replicate k (.int .i64 x)) Tryz.underlying23 hsizeI (by rw[List.length_replicate];exact hk) (fun j v hv=>by
    rw[List.getElem?_replicate]at hv;split at hv
    ·obtain rfl:=Option.some.inj hv;rw[add_at,Nat.zero_add];have h1:=hcell j (by omega);rw[hrd j (by omega)]at h1;exact h1
    ·cases hv) (fun j hj=>by
     rw[List.length_replicate]at hj;have h1:wr.drew.cell? ⟨ga,i+j,none⟩=_:=hcell (i+j) (by omega);rw[h1];rfl) (fun j _=>blk_frozen hcs (i+j)) (fun v hv=>by rw[(List.mem_replicate.1 hv).2];rfl)
   rw[List.length_replicate]at hcp;obtain⟨f1,f2,f3⟩:=fillR k i wr.drew (by omega) (Kd.R_drew HRl.out);have hik:i+k≤N:=by omega
   generalize hq_:World.setCells wr.drew ga i (List.replicate k (.int .i64 x))=w45 at hcp f1 f2 f3;have HR45:=aM f1;have HB45:=sF (Below w.heap.size w w45) ((below_drew1 HBl.out).trans (f3.mono hga0));have hk0:0< k:=by have:=hi0 (by omega);omega
   have hci: ¬c30=i:=by omega
   have hic:i≤c30:=by omega
   have HCP:=aM hcp;clear hq_ f1 f2 f3 hcell hrd hcs hsl1 hsl2 hk hcl hcp;go_upto_region 9 with fail
   refine start_ (n:=10) (S:=fun w'=>True) (ds:= []) (M_ 10 0) (by kernel_rfl) rfl (by kernel_rfl) trivial (fun hHeld=>?_);refine pu_ 0 (some 38) (M_ 10 1) ?_;refine pu_ 1 (some 39) (M_ 10 3) ?_;refine pu_ 2 (some 40) (M_ 10 7) ?_;refine pu_ 3 (some 41) (M_ 10 15) ?_;refine pu_ 4 (some 42) (M_ 10 31) ?_;refine pu_ 5 (some 43) (M_ 10 63) ?_;refine pu_ 6 (some 44) (M_ 10 127) ?_;refine one_ (i:=7) (N:=some 45) (M_ 10 255) rfl rfl (by kernel_rfl) (by decide) (fun K hK=>?_);refine step_copy (v:= .slice (some ⟨ga,i,none⟩) (N - i) (c30 - i)) (u:= .slice (some ⟨ga,0,none⟩) i c30) (r:=goInt k) (w1:=w45) rfl (.tmp 41) (.tmp 44) 23 23 rfl rfl rfl HCP.out ?_;refine hK.out _ _ trivial (fun hHeld=>?_);clear hK K;refine no_ 45 ?_;refine pu_ 8 (some 46) (M_ 10 511) ?_;refine pu_ 9 (some 8) (M_ 10 1023) ?_;refine done_ (by kernel_rfl) ?_;all_goals
    go_wp2_with fail
    go_roundg (N - (i+k))
    case measure=>omega
    case rel=>exact⟨i+k,hik,fun _=>by omega,by omega,(by rw[show wrap64 ((i:Int) + (k:Int))=((i+k:Nat):Int)from by unfold wrap64;omega]),HB45,HR45⟩
  ·have hltz: ¬ (i:Int)< (N:Int):=by omega
   obtain rfl:i=N:=by omega
   go_wp2_with fail
   go_ret;exact⟨_,rfl,by have h1:=HRl.out;unfold curR at h1;rw[Nat.sub_self,List.replicate_zero,List.append_nil]at h1;exact h1,HBl.out⟩
theorem infoRatT:(Tryz.prog.info? 59).map (fun i=>(i.zero,i.size,i.bytes))=some (some (.agg #[.int .i64 0,.bool false,.slice none 0 0,.slice none 0 0]),4,64):=by kernel_rfl
theorem slices_Clone_rats.calls(A0:Option Addr)(c0:Nat)(l0:List S59)(w:World)(hr0:Kd.C k59 w A0 l0.length l0)(hN:l0.length≤1000000):
  Calls Tryz.prog 120 #[.slice A0 l0.length c0] w fun e w'=> ∃v0_:Value,e= .returned (v0_)∧Kd.N k59 59 w' w.heap.size (fun _=>True) v0_ l0∧Below w.heap.size w w':=by
 have HR0:=aM hr0;have HB:=aM (Below.refl w.heap.size w);cases A0 with
 |none=>
  have h0:l0= [] :=by
   rcases l0 with _| ⟨x,l⟩
   ·rfl
   ·obtain⟨ad,e,_⟩:=hr0.2.2 (by simp);cases e
  subst h0;clear hr0;have hn:=Lib.run_eql_slice_nil (P:=Tryz.prog) (w:=w) (t:=26) (e:=59) (a:=none) (n:=0) (c:=c0) (n':=0) (c':=0) Tryz.underlying26;go_enter Tryz.func120,Tryz.ntmps120
  go_wp2_with fail
  go_ret;exact⟨_,rfl,Kd.N_nil _ _ _ _ _,Below.refl _ _⟩
 |some ad=>
  clear hr0;have hn:=Lib.run_eql_slice_nil (P:=Tryz.prog) (w:=w) (t:=26) (e:=59) (a:=some ad) (n:=l0.length) (c:=c0) (n':=0) (c':=0) Tryz.underlying26;go_enter Tryz.func120,Tryz.ntmps120
  go_wp2_with (first| (refine gD 5 ?_;refine Kd.N_lit k59 _ 59 ?hg (N':=5) ?hd (xs:=([] :List S59)) (inner:= []) (ok:=fun _=>True) (okp:=fun _=>True) ?hr ?hp (fun _ hk=>hk) trivial (Below.refl _ _) (Nat.le_refl _) (by simp) ?_;(case hd=>rfl);(case hg=>rfl);(case hr=>first| (go_simp;done) | (go_simp;rfl));(case hp=>exact(Reps.none _ _));intro v1 w1 ho hb _ _;have HO:=aM ho;have HB:=aM hb;clear ho hb) | ((with_reducible refine gate_builtin (b:= .append) (xs:= #[.tmp 5,.tmp 6]) rfl ?_);at_builtin;refine Kd.N_append_rows k59 (w0:=w) w.heap.size rfl (.tmp 5) (.tmp 6) 26 59 (.agg #[.int .i64 0,.bool false,.slice none 0 0,.slice none 0 0]) 64 rfl Tryz.underlying26 infoRatT rfl (by decide) (by omega) v1 ([] :List S59) l0 _ _ _ (fun _=>True) (fun k=>k< w.heap.size) rfl rfl ?aO ?aR ?aP ?aF ?aB ?aS ?aL ?_;(case aR=>exact Kd.F_below (Kd.C_F k59_heap HR0.out) HB.out);(case aP=>exact fun k hk=>⟨trivial,fun he=>absurd (Kd.N_base HO.out k he.symm) (by omega)⟩);(case aB=>exact HB.out);(case aF=>exact(fun _ _=>trivial));(case aO=>exact HO.out);(case aS=>exact HB.out.size);(case aL=>simp only[List.length_nil];omega);intro v2 w2 ho hb _ _;have HO2:=aM ho;have HB2:=aM hb;clear ho hb))
  go_ret;exact⟨_,rfl,HO2.out,HB2.out⟩
def fluxionref02_digits.l0:Nat→List Int→List Int→Int→Option (Bool)
 |0,_,_,_=>none
 |k+1,x0,x1,x5=>if x5< (x0.length:Int)then(if 0≤x5 then(if x5< (x1.length:Int)then(if(rd x0 x5)=(rd x1 x5)then(fluxionref02_digits.l0 k x0 x1 (wrap64 (x5+1)))else(none))else(none))else(none))else(some true)
def fluxionref02_digits.f(k:Nat)(l0:List Int)(l1:List Int):Option (Bool):=if(l0.length:Int)=(l1.length:Int)then(fluxionref02_digits.l0 k l0 l1 0)else(none)
theorem fluxionref02_digits.calls(k:Nat)(A0:Option Addr)(c0:Nat)(l0:List Int)(A1:Option Addr)(c1:Nat)(l1:List Int)(r:Bool)(w:World)(hr0:Kd.C (Kd.int .u32) w A0 l0.length l0)(hc0:l0.length≤c0)(hr1:Kd.C (Kd.int .u32) w A1 l1.length l1)(hc1:l1.length≤c1)(h:fluxionref02_digits.f k l0 l1=some r):
  Calls Tryz.prog 81 #[.slice A0 l0.length c0,.slice A1 l1.length c1] w fun e w'=>e= .returned (.bool r)∧Drawn0 w w':=by
 have HR0:=aM hr0;have HC0:=aM hc0;clear hr0 hc0;have HR1:=aM hr1;have HC1:=aM hc1;clear hr1 hc1;have H:=h;clear h;unfold fluxionref02_digits.f at H;replace H:=iN H;obtain⟨c3,H⟩:=H;have c3b0:=beq_iff_eq.mpr c3;have c3b1:=bne_eq_false_iff_eq.mpr c3;have c3b2:(l0.length==l1.length)=true:=by first|simpa using c3| (simp at c3 ⊢;omega)
 clear c3;have H':=aM H;clear H;go_enter Tryz.func81,Tryz.ntmps81
 go_wp2
 repeat(go_quiet (fail);try go_wp2)
 go_loopg [5] k (fun kq v5 w'=> ∃ (x5_1:Int),v5= .int .i64 x5_1∧Aside0 (fluxionref02_digits.l0 kq l0 l1 x5_1=some r)∧Aside0 (kq≤k)∧Drawn0 w w')
 case atStart=>exact⟨(0),eS,H',⟨Nat.le_refl _⟩,by repeat(first|exact Drawn0.refl _|apply Drawn0.step)⟩
 case round=>
  clear H';obtain⟨x5_1,rfl,HA,HK1,⟨m1,rfl⟩⟩:=hrel;cases gk with
  |zero=>exact absurd HA.out (by simp[fluxionref02_digits.l0])
  |succ k1=>
   have H:=HA.out;clear HA;simp only[fluxionref02_digits.l0]at H;by_cases c4:x5_1< (l0.length:Int)
   ·rw[if_pos c4]at H;have c4b0:=decide_eq_true c4;clear c4;replace H:=iN H;obtain⟨c5,H⟩:=H;have c5b0:=decide_eq_true c5;clear c5;replace H:=iN H;obtain⟨c6,H⟩:=H;have c6b0:=decide_eq_true c6;clear c6;replace H:=iN H;obtain⟨c7,H⟩:=H;have c7b0:=beq_iff_eq.mpr c7;have c7b1:=bne_eq_false_iff_eq.mpr c7;clear c7;have H':=aM H;clear H;have p297:0≤(x5_1:Int):=dQ;have q297:x5_1< (l0.length:Int):=dQ;obtain⟨ad297,e297,hx297_0⟩:=Kd.at_int HR0.out x5_1 p297 q297;cases e297;replace p297:=eq_true p297;replace q297:=eq_true q297;have p298:0≤(x5_1:Int):=dQ;have q298:x5_1< (l1.length:Int):=dQ;obtain⟨ad298,e298,hx298_0⟩:=Kd.at_int HR1.out x5_1 p298 q298;cases e298;replace p298:=eq_true p298;replace q298:=eq_true q298;go_wp2
    repeat(go_quiet (fail);try go_wp2)
    go_roundg k1
    case measure=>have:=HK1.out;omega
    case rel=>exact⟨(wrap64 (x5_1+1)),eS,H',⟨by have:=HK1.out;omega⟩,by repeat(first|exact Drawn0.refl _|apply Drawn0.step)⟩
   ·rw[if_neg c4]at H;have c4b0:=decide_eq_false c4;clear c4;obtain rfl:=Option.some.inj H;go_wp2
    repeat(go_quiet (fail);try go_wp2)
    go_ret;exact⟨by first|rfl| (simp;done) | (simp[*];done),by repeat(first|exact Drawn0.refl _|apply Drawn0.step)⟩
def fluxionref02_Equal.f(k:Nat)(a0_0:Int)(a0_1:Bool)(l0_2:List Int)(l0_3:List Int)(a1_0:Int)(a1_1:Bool)(l1_2:List Int)(l1_3:List Int):Option (Bool):=if a0_0=a1_0 then(if(a0_1==a1_1)=true then((fluxionref02_digits.f k l0_2 l1_2).bind fun t301=>(if t301=true then((fluxionref02_digits.f k l0_3 l1_3).bind fun t302=>(some t302))else(some false)))else(some false))else(some false)
theorem fluxionref02_Equal.calls(k:Nat)(a0_0:Int)(a0_1:Bool)(A0_2:Option Addr)(c0_2:Nat)(l0_2:List Int)(A0_3:Option Addr)(c0_3:Nat)(l0_3:List Int)(a1_0:Int)(a1_1:Bool)(A1_2:Option Addr)(c1_2:Nat)(l1_2:List Int)(A1_3:Option Addr)(c1_3:Nat)(l1_3:List Int)(r:Bool)(w:World)(hr0_2:Kd.C (Kd.int .u32) w A0_2 l0_2.length l0_2)(hc0_2:l0_2.length≤c0_2)(hr0_3:Kd.C (Kd.int .u32) w A0_3 l0_3.length l0_3)(hc0_3:l0_3.length≤c0_3)(hr1_2:Kd.C (Kd.int .u32) w A1_2 l1_2.length l1_2)(hc1_2:l1_2.length≤c1_2)(hr1_3:Kd.C (Kd.int .u32) w A1_3 l1_3.length l1_3)(hc1_3:l1_3.length≤c1_3)(h:fluxionref02_Equal.f k a0_0 a0_1 l0_2 l0_3 a1_0 a1_1 l1_2 l1_3=some r):
  Calls Tryz.prog 34 #[.agg #[.int .i64 a0_0,.bool a0_1,.slice A0_2 l0_2.length c0_2,.slice A0_3 l0_3.length c0_3],.agg #[.int .i64 a1_0,.bool a1_1,.slice A1_2 l1_2.length c1_2,.slice A1_3 l1_3.length c1_3]] w fun e w'=>e= .returned (.bool r)∧Below w.heap.size w w':=by
 have hu59:=Tryz.underlying59;have HR0_2:=aM hr0_2;have HC0_2:=aM hc0_2;clear hr0_2 hc0_2;have HR0_3:=aM hr0_3;have HC0_3:=aM hc0_3;clear hr0_3 hc0_3;have HR1_2:=aM hr1_2;have HC1_2:=aM hc1_2;clear hr1_2 hc1_2;have HR1_3:=aM hr1_3;have HC1_3:=aM hc1_3;clear hr1_3 hc1_3;have HB:=aM (Below.refl w.heap.size w);have H:=h;clear h;unfold fluxionref02_Equal.f at H;by_cases c3:a0_0=a1_0
 ·rw[if_pos c3]at H;have c3b0:=beq_iff_eq.mpr c3;have c3b1:=bne_eq_false_iff_eq.mpr c3;clear c3;by_cases c4:(a0_1==a1_1)=true
  ·rw[if_pos c4]at H;have c4b0:(a0_1==a1_1)=true:=c4;(try (have c4b1:decide (a0_1=a1_1)=true:=by simpa using c4));(try (have c4b2:(a0_1==a1_1)=true:=by simpa using c4));clear c4;obtain⟨t301,A5,H⟩:=bO H;(try dsimp only at H);by_cases c6:t301=true
   ·subst c6;rw[if_pos rfl]at H;obtain⟨t302,A7,H⟩:=bO H;(try dsimp only at H);obtain rfl:=Option.some.inj H;go_enter Tryz.func34,Tryz.ntmps34
    go_wp2_with (first| (refine gD 2 ?_;refine bx_ 2 #[.int .i64 a0_0,.bool a0_1,.slice A0_2 l0_2.length c0_2,.slice A0_3 l0_3.length c0_3] 59 ?_;intro gb299 hg w8 hbox hb;have BK299:=aM hbox;have GW299:=aM (gQ w hg);have GE299:=aM (gQ w hg);replace HB:=hsQ hb;clear hb hbox hg) | (refine gD 3 ?_;refine bx_ 3 #[.int .i64 a1_0,.bool a1_1,.slice A1_2 l1_2.length c1_2,.slice A1_3 l1_3.length c1_3] 59 ?_;intro gb300 hg w9 hbox hb;have BK300:=aM hbox;have GW300:=aM (gQ w hg);have GE300:=aM (gQ w hg);have NB299_300:=aM (lQ hg (kQ BK299.out));have NB300_299:=aM (mQ' hg (kQ BK299.out));replace BK299:=kB BK299 hb;replace HB:=hsQ hb;clear hb hbox hg;have hnb10:=NB299_300.out;have hnc10:=NB300_299.out;obtain⟨_,_,_,_,_,_,_,_⟩:=c4Q BK299.out;obtain⟨_,_,_,_,_,_,_,_⟩:=c4Q BK300.out) | (go_at_call 81;(with_reducible refine(fluxionref02_digits.calls k _ _ l0_2 _ _ l1_2 true _ (cbQ HR0_2 HB) HC0_2.out (cbQ HR1_2 HB) HC1_2.out A5.out).mono ?_);rintro e w' ⟨rfl,⟨nd,rfl⟩⟩) | (go_at_call 81;(with_reducible refine(fluxionref02_digits.calls k _ _ l0_3 _ _ l1_3 t302 _ ?side1 ?side2 ?side3 ?side4 A7.out).mono ?_);(case side1=>repeat(first|exact(Kd.C_below HR0_3.out bQ) | (with_reducible refine Kd.C_alloc ?_ _) | (with_reducible refine Kd.C_drewN ?_ _) | (with_reducible refine Kd.C_drew ?_)));(case side2=>exact HC0_3.out);(case side3=>repeat(first|exact(Kd.C_below HR1_3.out bQ) | (with_reducible refine Kd.C_alloc ?_ _) | (with_reducible refine Kd.C_drewN ?_ _) | (with_reducible refine Kd.C_drew ?_)));(case side4=>exact HC1_3.out);rintro e w' ⟨rfl,⟨nd,rfl⟩⟩))
    go_ret;exact⟨eQ,bQ⟩
   ·replace c6:=Bool.eq_false_iff.mpr c6;subst c6;rw[if_neg nF]at H;obtain rfl:=Option.some.inj H;go_enter Tryz.func34,Tryz.ntmps34
    go_wp2_with (first| (refine gD 2 ?_;refine bx_ 2 #[.int .i64 a0_0,.bool a0_1,.slice A0_2 l0_2.length c0_2,.slice A0_3 l0_3.length c0_3] 59 ?_;intro gb299 hg w13 hbox hb;have BK299:=aM hbox;have GW299:=aM (gQ w hg);have GE299:=aM (gQ w hg);replace HB:=hsQ hb;clear hb hbox hg) | (refine gD 3 ?_;refine bx_ 3 #[.int .i64 a1_0,.bool a1_1,.slice A1_2 l1_2.length c1_2,.slice A1_3 l1_3.length c1_3] 59 ?_;intro gb300 hg w14 hbox hb;have BK300:=aM hbox;have GW300:=aM (gQ w hg);have GE300:=aM (gQ w hg);have NB299_300:=aM (lQ hg (kQ BK299.out));have NB300_299:=aM (mQ' hg (kQ BK299.out));replace BK299:=kB BK299 hb;replace HB:=hsQ hb;clear hb hbox hg;have hnb15:=NB299_300.out;have hnc15:=NB300_299.out;obtain⟨_,_,_,_,_,_,_,_⟩:=c4Q BK299.out;obtain⟨_,_,_,_,_,_,_,_⟩:=c4Q BK300.out) | (go_at_call 81;(with_reducible refine(fluxionref02_digits.calls k _ _ l0_2 _ _ l1_2 false _ (cbQ HR0_2 HB) HC0_2.out (cbQ HR1_2 HB) HC1_2.out A5.out).mono ?_);rintro e w' ⟨rfl,⟨nd,rfl⟩⟩))
    go_ret;exact⟨eQ,bQ⟩
  ·rw[if_neg c4]at H;have c4b0:(a0_1==a1_1)=false:=by simpa using c4
   (try (have c4b1:decide (a0_1=a1_1)=false:=by simpa using c4));(try (have c4b2:(a0_1==a1_1)=false:=by simpa using c4));(try (have c4b3: ¬ (a0_1=a1_1):=by simpa using c4));clear c4;obtain rfl:=Option.some.inj H;go_enter Tryz.func34,Tryz.ntmps34
   go_wp2_with (first| (refine gD 2 ?_;refine bx_ 2 #[.int .i64 a0_0,.bool a0_1,.slice A0_2 l0_2.length c0_2,.slice A0_3 l0_3.length c0_3] 59 ?_;intro gb299 hg w18 hbox hb;have BK299:=aM hbox;have GW299:=aM (gQ w hg);have GE299:=aM (gQ w hg);replace HB:=hsQ hb;clear hb hbox hg) | (refine gD 3 ?_;refine bx_ 3 #[.int .i64 a1_0,.bool a1_1,.slice A1_2 l1_2.length c1_2,.slice A1_3 l1_3.length c1_3] 59 ?_;intro gb300 hg w19 hbox hb;have BK300:=aM hbox;have GW300:=aM (gQ w hg);have GE300:=aM (gQ w hg);have NB299_300:=aM (lQ hg (kQ BK299.out));have NB300_299:=aM (mQ' hg (kQ BK299.out));replace BK299:=kB BK299 hb;replace HB:=hsQ hb;clear hb hbox hg;have hnb20:=NB299_300.out;have hnc20:=NB300_299.out;obtain⟨_,_,_,_,_,_,_,_⟩:=c4Q BK299.out;obtain⟨_,_,_,_,_,_,_,_⟩:=c4Q BK300.out))
   go_ret;exact⟨eQ,bQ⟩
 ·rw[if_neg c3]at H;have c3b0:=beq_eq_false_iff_ne.mpr c3;have c3b1:=bne_iff_ne.mpr c3;obtain rfl:=Option.some.inj H;go_enter Tryz.func34,Tryz.ntmps34
  go_wp2_with (first| (refine gD 2 ?_;refine bx_ 2 #[.int .i64 a0_0,.bool a0_1,.slice A0_2 l0_2.length c0_2,.slice A0_3 l0_3.length c0_3] 59 ?_;intro gb299 hg w23 hbox hb;have BK299:=aM hbox;have GW299:=aM (gQ w hg);have GE299:=aM (gQ w hg);replace HB:=hsQ hb;clear hb hbox hg) | (refine gD 3 ?_;refine bx_ 3 #[.int .i64 a1_0,.bool a1_1,.slice A1_2 l1_2.length c1_2,.slice A1_3 l1_3.length c1_3] 59 ?_;intro gb300 hg w24 hbox hb;have BK300:=aM hbox;have GW300:=aM (gQ w hg);have GE300:=aM (gQ w hg);have NB299_300:=aM (lQ hg (kQ BK299.out));have NB300_299:=aM (mQ' hg (kQ BK299.out));replace BK299:=kB BK299 hb;replace HB:=hsQ hb;clear hb hbox hg;have hnb25:=NB299_300.out;have hnc25:=NB300_299.out;obtain⟨_,_,_,_,_,_,_,_⟩:=c4Q BK299.out;obtain⟨_,_,_,_,_,_,_,_⟩:=c4Q BK300.out))
  go_ret;exact⟨eQ,bQ⟩
def fluxionref11_Numbers.l0:Nat→List (S59)→List (S59)→Int→Option (Bool)
 |0,_,_,_=>none
 |k+1,x0,x1,x5=>if x5< (x0.length:Int)then(if 0≤x5 then(if x5< (x1.length:Int)then((fluxionref02_Equal.f k ((rd_T59 x0 x5).f0) ((rd_T59 x0 x5).f1) ((rd_T59 x0 x5).f2) ((rd_T59 x0 x5).f3) ((rd_T59 x1 x5).f0) ((rd_T59 x1 x5).f1) ((rd_T59 x1 x5).f2) ((rd_T59 x1 x5).f3)).bind fun t305=>(if t305=true then(fluxionref11_Numbers.l0 k x0 x1 (wrap64 (x5+1)))else(none)))else(none))else(none))else(some true)
def fluxionref11_Numbers.f(k:Nat)(l0:List (S59))(l1:List (S59)):Option (Bool):=if(l0.length:Int)=(l1.length:Int)then(fluxionref11_Numbers.l0 k l0 l1 0)else(none)
def fluxionref11_Numbers.T6:Bool×List (List Nat×List Nat):=(true,[([],[]),([],[]),([0,1],[0,1]),([2],[2]),([],[]),([],[]),([4,5],[4,5]),([6],[6]),([3,7],[3,7]),([8],[8])])
def fluxionref11_Numbers.B6:List Nat:= [0,0,3,7,0,0,48,112,255,511]
theorem fluxionref11_Numbers.tab6:rtab .any (opsOf Tryz.f27 6)=fluxionref11_Numbers.T6:=by kernel_rfl
theorem fluxionref11_Numbers.bits6:waitsOk fluxionref11_Numbers.T6.2 fluxionref11_Numbers.B6=true:=by kernel_rfl
theorem fluxionref11_Numbers.calls(k:Nat)(A0:Option Addr)(c0:Nat)(l0:List (S59))(A1:Option Addr)(c1:Nat)(l1:List (S59))(r:Bool)(w:World)(hr0:Kd.C k59 w A0 l0.length l0)(hc0:l0.length≤c0)(hr1:Kd.C k59 w A1 l1.length l1)(hc1:l1.length≤c1)(h:fluxionref11_Numbers.f k l0 l1=some r):
  Calls Tryz.prog 27 #[.slice A0 l0.length c0,.slice A1 l1.length c1] w fun e w'=>e= .returned (.bool r)∧Below w.heap.size w w':=by
 have hu59:=Tryz.underlying59;have HR0:=aM hr0;have HC0:=aM hc0;clear hr0 hc0;have HR1:=aM hr1;have HC1:=aM hc1;clear hr1 hc1;have HB:=aM (Below.refl w.heap.size w);have H:=h;clear h;unfold fluxionref11_Numbers.f at H;replace H:=iN H;obtain⟨c3,H⟩:=H;have c3b0:=beq_iff_eq.mpr c3;have c3b1:=bne_eq_false_iff_eq.mpr c3;have c3b2:(l0.length==l1.length)=true:=by first|simpa using c3| (simp at c3 ⊢;omega)
 clear c3;have H':=aM H;clear H;go_enter Tryz.func27,Tryz.ntmps27
 go_wp2
 go_loopg [5] k (fun kq v5 w'=> ∃ (x5_1:Int),v5= .int .i64 x5_1∧Aside0 (fluxionref11_Numbers.l0 kq l0 l1 x5_1=some r)∧Aside0 (kq≤k)∧Aside0 (Below w.heap.size w w'))
 case atStart=>exact⟨(0),eS,H',⟨Nat.le_refl _⟩,⟨bQ⟩⟩
 case round=>
  clear H';obtain⟨x5_1,rfl,HA,HK1,HB⟩:=hrel;cases gk with
  |zero=>exact absurd HA.out (by simp[fluxionref11_Numbers.l0])
  |succ k1=>
   have H:=HA.out;clear HA;simp only[fluxionref11_Numbers.l0]at H;by_cases c4:x5_1< (l0.length:Int)
   ·rw[if_pos c4]at H;have c4b0:=decide_eq_true c4;clear c4;replace H:=iN H;obtain⟨c5,H⟩:=H;have c5b0:=decide_eq_true c5;clear c5;replace H:=iN H;obtain⟨c6,H⟩:=H;have c6b0:=decide_eq_true c6;clear c6;obtain⟨t305,A7,H⟩:=bO H;(try dsimp only at H);by_cases c8:t305=true
    ·subst c8;rw[if_pos rfl]at H;have H':=aM H;clear H;(try go_wp2);replace HB:=aM (below_drew1 HB.out);have p303:0≤(x5_1:Int):=dQ;have q303:x5_1< (l0.length:Int):=dQ;obtain⟨ad303,A303_2,c303_2,A303_3,c303_3,e303,hx303_0,hx303_1,hx303_2,hx303_3,hl303_2,hi303_2,hl303_3,hi303_3⟩:=at_T59 HR0.out x5_1 p303 q303;have hw303_3:=hx303_3;have hw303_2:=hx303_2;have hw303_1:=hx303_1;have hw303_0:=hx303_0;cases e303;replace hx303_0:=cE HB.out hx303_0;replace hx303_1:=cE HB.out hx303_1;replace hx303_2:=cE HB.out hx303_2;replace hx303_3:=cE HB.out hx303_3;have HR303_2:=aM hi303_2;have HC303_2:=aM hl303_2;clear hi303_2 hl303_2;have HR303_3:=aM hi303_3;have HC303_3:=aM hl303_3;clear hi303_3 hl303_3;replace p303:=eq_true p303;replace q303:=eq_true q303;have p304:0≤(x5_1:Int):=dQ;have q304:x5_1< (l1.length:Int):=dQ;obtain⟨ad304,A304_2,c304_2,A304_3,c304_3,e304,hx304_0,hx304_1,hx304_2,hx304_3,hl304_2,hi304_2,hl304_3,hi304_3⟩:=at_T59 HR1.out x5_1 p304 q304;have hw304_3:=hx304_3;have hw304_2:=hx304_2;have hw304_1:=hx304_1;have hw304_0:=hx304_0;cases e304;replace hx304_0:=cE HB.out hx304_0;replace hx304_1:=cE HB.out hx304_1;replace hx304_2:=cE HB.out hx304_2;replace hx304_3:=cE HB.out hx304_3;have HR304_2:=aM hi304_2;have HC304_2:=aM hl304_2;clear hi304_2 hl304_2;have HR304_3:=aM hi304_3;have HC304_3:=aM hl304_3;clear hi304_3 hl304_3;replace p304:=eq_true p304;replace q304:=eq_true q304;refine start_ (n:=10) (S:=fun w'=>w'.cell? (ad303.add ((x5_1).toNat * 4))=some (.int .i64 ((rd_T59 l0 x5_1).f0))∧w'.cell? ⟨(ad303.add ((x5_1).toNat * 4)).block,(ad303.add ((x5_1).toNat * 4)).off+1,none⟩=some (.bool ((rd_T59 l0 x5_1).f1))∧w'.cell? ⟨(ad303.add ((x5_1).toNat * 4)).block,(ad303.add ((x5_1).toNat * 4)).off+2,none⟩=some (.slice A303_2 ((rd_T59 l0 x5_1).f2).length c303_2)∧w'.cell? ⟨(ad303.add ((x5_1).toNat * 4)).block,(ad303.add ((x5_1).toNat * 4)).off+3,none⟩=some (.slice A303_3 ((rd_T59 l0 x5_1).f3).length c303_3)∧w'.cell? (ad304.add ((x5_1).toNat * 4))=some (.int .i64 ((rd_T59 l1 x5_1).f0))∧w'.cell? ⟨(ad304.add ((x5_1).toNat * 4)).block,(ad304.add ((x5_1).toNat * 4)).off+1,none⟩=some (.bool ((rd_T59 l1 x5_1).f1))∧w'.cell? ⟨(ad304.add ((x5_1).toNat * 4)).block,(ad304.add ((x5_1).toNat * 4)).off+2,none⟩=some (.slice A304_2 ((rd_T59 l1 x5_1).f2).length c304_2)∧w'.cell? ⟨(ad304.add ((x5_1).toNat * 4)).block,(ad304.add ((x5_1).toNat * 4)).off+3,none⟩=some (.slice A304_3 ((rd_T59 l1 x5_1).f3).length c304_3)) (ds:= []) (M_ 10 0) (by kernel_rfl) rfl (by kernel_rfl) ⟨(cE HB.out hw303_0),(cE HB.out hw303_1),(cE HB.out hw303_2),(cE HB.out hw303_3),(cE HB.out hw304_0),(cE HB.out hw304_1),(cE HB.out hw304_2),(cE HB.out hw304_3)⟩ (fun hHeld=>?_);refine with_tabW fluxionref11_Numbers.tab6 fluxionref11_Numbers.bits6 (fun HT_ HW_=>?_);generalize wr.drew=w9 at HB HR303_2 HR303_3 HR304_2 HR304_3 hx303_0 hx303_1 hx303_2 hx303_3 hx304_0 hx304_1 hx304_2 hx304_3 hHeld ⊢;refine pu_ 0 (some 17) (M_ 10 1) ?_;refine pu_ 1 (some 18) (M_ 10 3) ?_;refine pu_ 2 (some 19) (M_ 10 7) ?_;refine pu_ 4 (some 21) (M_ 10 23) ?_;refine pu_ 5 (some 22) (M_ 10 55) ?_;refine pu_ 6 (some 23) (M_ 10 119) ?_;refine ta_ 3 (some 20) (M_ 10 127) hHeld ?_;refine ta_ 7 (some 24) (M_ 10 255) hHeld ?_;refine one_ (i:=8) (N:=some 25) (M_ 10 511) rfl rfl (one_of HT_.out (by kernel_rfl)) (by decide) (fun K hK=>?_);refine goes_ Tryz.func34 (by kernel_rfl) rfl #[.agg #[.int .i64 ((rd_T59 l0 x5_1).f0),.bool ((rd_T59 l0 x5_1).f1),.slice A303_2 ((rd_T59 l0 x5_1).f2).length c303_2,.slice A303_3 ((rd_T59 l0 x5_1).f3).length c303_3],.agg #[.int .i64 ((rd_T59 l1 x5_1).f0),.bool ((rd_T59 l1 x5_1).f1),.slice A304_2 ((rd_T59 l1 x5_1).f2).length c304_2,.slice A304_3 ((rd_T59 l1 x5_1).f3).length c304_3]] (by rfl) rfl rfl mQ ?_;(with_reducible refine(fluxionref02_Equal.calls k1 ((rd_T59 l0 x5_1).f0) ((rd_T59 l0 x5_1).f1) _ _ ((rd_T59 l0 x5_1).f2) _ _ ((rd_T59 l0 x5_1).f3) ((rd_T59 l1 x5_1).f0) ((rd_T59 l1 x5_1).f1) _ _ ((rd_T59 l1 x5_1).f2) _ _ ((rd_T59 l1 x5_1).f3) true _ (cbQ HR303_2 HB) HC303_2.out (cbQ HR303_3 HB) HC303_3.out (cbQ HR304_2 HB) HC304_2.out (cbQ HR304_3 HB) HC304_3.out A7.out).mono ?_);rintro e w10 ⟨rfl,hb⟩;refine⟨_,rfl,?_⟩;replace HB:=aM (below_step bQ hb);refine hK.out _ _ ⟨(cE HB.out hw303_0),(cE HB.out hw303_1),(cE HB.out hw303_2),(cE HB.out hw303_3),(cE HB.out hw304_0),(cE HB.out hw304_1),(cE HB.out hw304_2),(cE HB.out hw304_3)⟩ (fun hHeld=>?_);clear hK K;refine no_ 25 ?_;refine pu_ 9 (some 26) (M_ 10 1023) ?_;refine done_ (done_of HT_.out (by kernel_rfl)) ?_;(try go_wp2);go_roundg k1
     case measure=>have:=HK1.out;omega
     case rel=>exact⟨(wrap64 (x5_1+1)),eS,H',⟨by have:=HK1.out;omega⟩,⟨bQ⟩⟩
    ·replace c8:=Bool.eq_false_iff.mpr c8;subst c8;rw[if_neg nF]at H;exact absurd H (by simp)
   ·rw[if_neg c4]at H;have c4b0:=decide_eq_false c4;clear c4;obtain rfl:=Option.some.inj H;go_wp2
    go_ret;exact⟨eQ,bQ⟩
theorem IndexFunc_Rat.calls(A0:Option Addr)(c0:Nat)(l0:List S59)(w:World)(g:Nat)(lb:Array Value)(p:S59→Bool)
  (eg: ∀args w,(callFunc g args).run Tryz.prog w= .ok (.enter g args) w) (hr0:Kd.C k59 w A0 l0.length l0)
  (hp: ∀ (W:World) (x:S59) (A2:Option Addr) (c2:Nat) (A3:Option Addr) (c3:Nat),Below w.heap.size w W→x∈l0→x.f2.length≤c2→(Kd.int .u32).C W A2 x.f2.length x.f2→x.f3.length≤c3→(Kd.int .u32).C W A3 x.f3.length x.f3→FnAny g lb (.agg #[.int .i64 x.f0,.bool x.f1,.slice A2 x.f2.length c2,.slice A3 x.f3.length c3]) (p x) W):
  Calls Tryz.prog 143 #[.slice A0 l0.length c0,.func (.func g) #[] lb] w fun e w'=>(∃i:Int,e= .returned (.int .i64 i)∧(decide (0≤i)=l0.any p))∧Below w.heap.size w w':=by
 have HR:=aM hr0;have HP:=aM hp;have hn:l0.length≤9223372036854775807:=hr0.2.1;have hu59:=Tryz.underlying59;clear hr0 hp;go_enter Tryz.func143,Tryz.ntmps143
 go_wp2
 go_loopg [5,8] l0.length (fun gg _ s8 wr=> ∃kk:Nat,kk≤l0.length∧l0.length - kk≤gg∧s8= .int .i64 kk∧Aside0 (Below w.heap.size w wr)∧Aside0 (∀x,x∈l0.take kk→p x=false))
 case atStart=>exact⟨0,Nat.zero_le _,by omega,rfl,⟨Below.refl _ _⟩,⟨by simp⟩⟩
 case round=>
  obtain⟨kk,hkk,hg,rfl,HB,HA⟩:=hrel;by_cases hlt:kk< l0.length
  ·have hltz:(kk:Int)< (l0.length:Int):=by omega
   obtain⟨ad,A2,c2,A3,c3,e0,hx0,hx1,hx2,hx3,hl2,hi2,hl3,hi3⟩:=at_T59 (Kd.C_below HR.out HB.out) (kk:Int) (by omega) (by omega);subst e0;have hx:rd_T59 l0 (kk:Int)=l0[kk] :=by unfold rd_T59;simp[hlt]
   rw[hx]at hx0 hx1 hx2 hx3 hl2 hi2 hl3 hi3;simp only[Int.toNat_natCast]at hx0 hx1 hx2 hx3;have HC:=sF (Calls Tryz.prog g _ wr _) (HP.out wr l0[kk] A2 c2 A3 c3 HB.out (List.getElem_mem _) hl2 hi2 hl3 hi3);obtain⟨x,hxx⟩: ∃x,x=l0[kk] :=⟨_,rfl⟩;rw[←hxx]at hx0 hx1 hx2 hx3 HC;have HXX:=aM hxx;clear hx hl2 hi2 hl3 hi3 hxx;obtain⟨b,hqq⟩: ∃b,p x=b:=⟨_,rfl⟩;rw[hqq]at HC;have Hqq:=aM hqq;clear hqq;cases b with
   |true=>
    go_wp2_with fail
    refine HC.out.mono ?_;rintro e w' ⟨rfl,hb⟩;go_wp2_with fail
    go_ret;refine⟨⟨_,rfl,?_⟩,HB.out.trans (hb.mono HB.out.size)⟩;rw[show decide (0≤(kk:Int))=true from by simp];exact(List.any_eq_true.2 ⟨l0[kk],List.getElem_mem _,HXX.out▸Hqq.out⟩).symm
   |false=>
    go_wp2_with fail
    refine HC.out.mono ?_;rintro e w' ⟨rfl,hb⟩;go_wp2_with fail
    go_roundg (l0.length - (kk+1))
    case measure=>omega
    case rel=>
     refine⟨kk+1,by omega,by omega,by go_num,⟨HB.out.trans (hb.mono HB.out.size)⟩,⟨fun x hx=>?_⟩⟩;rw[List.take_succ_eq_append_getElem hlt,List.mem_append]at hx;rcases hx with hx|hx
     ·exact HA.out x hx
     ·rw[List.mem_singleton.1 hx,←HXX.out];exact Hqq.out
  ·have hltz: ¬ (kk:Int)< (l0.length:Int):=by omega
   have:kk=l0.length:=by omega
   subst this;go_wp2
   go_ret;refine⟨⟨_,rfl,?_⟩,HB.out⟩;rw[List.take_length]at HA;rw[show decide ((0:Int)≤ -1)=false from rfl];exact(List.any_eq_false.2 (fun x hx=>by rw[HA.out x hx];decide)).symm
theorem ContainsFunc_Rat.calls(A0:Option Addr)(c0:Nat)(l0:List S59)(w:World)(g:Nat)(lb:Array Value)(p:S59→Bool)
  (eg: ∀args w,(callFunc g args).run Tryz.prog w= .ok (.enter g args) w) (hr0:Kd.C k59 w A0 l0.length l0)
  (hp: ∀ (W:World) (x:S59) (A2:Option Addr) (c2:Nat) (A3:Option Addr) (c3:Nat),Below w.heap.size w W→x∈l0→x.f2.length≤c2→(Kd.int .u32).C W A2 x.f2.length x.f2→x.f3.length≤c3→(Kd.int .u32).C W A3 x.f3.length x.f3→FnAny g lb (.agg #[.int .i64 x.f0,.bool x.f1,.slice A2 x.f2.length c2,.slice A3 x.f3.length c3]) (p x) W):
  Calls Tryz.prog 98 #[.slice A0 l0.length c0,.func (.func g) #[] lb] w fun e w'=>e= .returned (.bool (l0.any p))∧Below w.heap.size w w':=by
 have HX:=aM (IndexFunc_Rat.calls A0 c0 l0 w g lb p eg hr0 hp);clear eg hr0 hp;go_enter Tryz.func98,Tryz.ntmps98
 go_wp2_with fail
 refine HX.out.mono ?_;rintro e w' ⟨⟨i,rfl,hi⟩,hb⟩;have Hi:=aM hi;clear hi HX;go_wp2_with fail
 go_ret;exact⟨by rw[←Hi.out];rfl,hb⟩
def ratOf(k:Nat)(x:S59):Option Bool:=frac_IsRat.f k x.f0 x.f1 x.f2 x.f3
theorem V_sum2{w7:World}{e b0 g4 B m:Nat}{v:Value}{x:List Int}(hv:Kd.V (Kd.int .u32) e w7 b0 (fun k=>m≤k) v x)(hg:g4< m)(hm:B≤m)(a b c d:Value):
  Kd.V (Kd.int .u32) e ((((w7.setCell ⟨g4,0,none⟩ a).setCell ⟨g4,1,none⟩ b).setCell ⟨g4,2,none⟩ c).setCell ⟨g4,3,none⟩ d) b0 (fun k=>B≤k∧k≠g4) v x:=
 Kd.V_far (Kd.V_far (Kd.V_far (Kd.V_far (Kd.V_mono hv (fun k hk=>(show B≤k∧k≠g4 from⟨Nat.le_trans hm hk,by have h:m≤k:=hk;omega⟩))) (fun k hk=>hk.2) _) (fun k hk=>hk.2) _) (fun k hk=>hk.2) _) (fun k hk=>hk.2) _
theorem below_sum{w W:World}{g4:Nat}(h:Below w.heap.size w W)(hg:w.heap.size≤g4)(a b c d:Value):Below w.heap.size w ((((W.setCell ⟨g4,0,none⟩ a).setCell ⟨g4,1,none⟩ b).setCell ⟨g4,2,none⟩ c).setCell ⟨g4,3,none⟩ d):=below_set (below_set (below_set (below_set h hg) hg) hg) hg
end Go.Proofs.YtdiflpfkoigmaaaGreatDoor.PTapeCheap
