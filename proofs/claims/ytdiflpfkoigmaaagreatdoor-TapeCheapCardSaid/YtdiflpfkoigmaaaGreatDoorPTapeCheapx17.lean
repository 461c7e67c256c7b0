-- written by a program of this session, after the kit's print
import Derived.Test.YtdiflpfkoigmaaaGreatDoorPTapeCheapx10
namespace Go.Proofs.YtdiflpfkoigmaaaGreatDoor.PTapeCheap
open Go.RowKit Go.Proofs.YtdiflpfkoigmaaaGreatDoorW
set_option maxHeartbeats 8000000
set_option maxRecDepth 100000
set_option linter.unusedVariables false
set_option linter.unusedSimpArgs false
theorem blk3T{W:World}{g:Nat}{t:TypeId}{a0 b0 c0:Value}(h:W.heap[g]? =some (.cells #[a0,b0,c0] t (0,0)))(a b c:Value):(((W.setCell ⟨g,0,none⟩ a).setCell ⟨g,1,none⟩ b).setCell ⟨g,2,none⟩ c).heap[g]? =some (.cells #[a,b,c] t (0,0)):=by
 have h0:=blk_put (cs':= #[a,b0,c0]) h 0 a rfl;have h1:=blk_put (cs':= #[a,b,c0]) h0 1 b rfl;exact blk_put (cs':= #[a,b,c]) h1 2 c rfl
theorem below3T{w W:World}{g:Nat}(h:Below w.heap.size w W)(hg:w.heap.size≤g)(a b c:Value):Below w.heap.size w (((W.setCell ⟨g,0,none⟩ a).setCell ⟨g,1,none⟩ b).setCell ⟨g,2,none⟩ c):=
 below_set (below_set (below_set h hg) hg) hg
theorem tAdd_len{st st':List S81}{k a b:Int}(h:tAdd st k a b=some st'):st.length≤1000000∧st'=st++ [stepOf k a b] :=by
 unfold tAdd at h;split at h
 ·rename_i hl;exact⟨hl,(Option.some.inj h).symm⟩
 ·cases h
theorem tMore_len{q q':List S81×List Int}{a b:Int}(h:tMore q a b=some q'):q'.2.length=q.2.length:=by
 unfold tMore at h;split at h
 ·split at h
  ·obtain rfl:=Option.some.inj h;exact List.length_set
  ·obtain⟨s,_,h⟩:=bO h;obtain rfl:=Option.some.inj h;exact List.length_set
 ·cases h
theorem tLess_len{q q':List S81×List Int}{a b:Int}(h:tLess q a b=some q'):q'.2.length=q.2.length:=by
 unfold tLess at h;split at h
 ·split at h
  ·obtain⟨s,_,h⟩:=bO h;obtain rfl:=Option.some.inj h;exact List.length_set
  ·obtain⟨s,_,h⟩:=bO h;obtain rfl:=Option.some.inj h;exact List.length_set
 ·cases h
structure RevRun (w wb W:World) (Y0 Y:Nat→Prop) (g gwp gwt:Nat) (n:Int) (A9:Option Addr) (c9 L:Nat) (q:List S81×List Int) (A:Option Addr) (c:Nat):Prop where
 st:RevSt w W Y g gwp gwt n (.slice none 0 0) q.1 q.2 A c A9 c9
 hY: ∀k,Y k→(Y0 k∨wb.heap.size≤k)∧k< W.heap.size
 kept:Kept wb W (fun k=>(k=g∨Y0 k)∨some k=(Value.slice A9 L c9).ownBlock)
 below:Below w.heap.size w W
 len:q.2.length=L
structure RevMid (w wc W:World) (X:Nat→Prop) (g gwp gwt:Nat) (n:Int) (A9:Option Addr) (c9 L:Nat) (q:List S81×List Int) (A:Option Addr) (c:Nat):Prop where
 st:RevSt w W X g gwp gwt n (.slice none 0 0) q.1 q.2 A c A9 c9
 fx:RevFix w X g gwp gwt
 kept:Kept wc W (fun k=>(k=g∨X k)∨some k=(Value.slice A9 L c9).ownBlock)
 below:Below w.heap.size w W
 len:q.2.length=L
 hX: ∀k,wc.heap.size≤k→X k
section
variable {w wb wc W Wr:World} {X Y0 Y:Nat→Prop} {g gwp gwt:Nat} {n:Int} {A9:Option Addr} {c9 L:Nat} {q q':List S81×List Int} {A:Option Addr} {c:Nat}
theorem Kept.trans_{a b c:World}{S:Nat→Prop}(h:Kept a b S)(h2:Kept b c S):Kept a c S:=
 ⟨Nat.le_trans h.1 h2.1,fun j hj hn=>(h2.2 j (Nat.lt_of_lt_of_le hj h.1) hn).trans (h.2 j hj hn)⟩
theorem Kept.mono_{a b:World}{S T:Nat→Prop}(h:Kept a b S)(hs: ∀k,S k→T k):Kept a b T:=
 ⟨h.1,fun j hj hn=>h.2 j hj (fun e=>hn (hs j e))⟩
theorem to_cell{ad:Addr}{l:List Int}{base c_:Nat}{ok:Nat→Prop}(h:Kd.R (Kd.int .i64) 3 wb base ok (.slice (some ad) l.length c_) l)(hk: ∀k,ok k→k< wb.heap.size→W.heap[k]? =wb.heap[k]?){j:Int}(h0:0≤j)(h1:j< (l.length:Int)):W.cell? (ad.add j.toNat)=some (.int .i64 (rd l j)):=by
 obtain⟨ad',e,hx⟩:=Kd.at_int (Kd.R_reads' (Kd.R_step h hk)).2.2 j h0 h1;obtain rfl:=Option.some.inj e;exact hx
theorem RevSt.drew{vO:Value}{st:List S81}{ws:List Int}(h:RevSt w W X g gwp gwt n vO st ws A c A9 c9)(hg:w.heap.size≤g):RevSt w W.drew X g gwp gwt n vO st ws A c A9 c9:=
 ⟨h.tw.step (fun _ _ _ _=>rfl) hg,h.pw,h.pt,Kd.R_drew h.row⟩
theorem RevMid.drew(h:RevMid w wc W X g gwp gwt n A9 c9 L q A c):RevMid w wc W.drew X g gwp gwt n A9 c9 L q A c:=
 ⟨h.st.drew h.fx.hg,h.fx,h.kept,below_drew1 h.below,h.len,h.hX⟩
theorem RevMid.more(h:RevMid w wc W X g gwp gwt n A9 c9 L q A c){a b:Int}(hq:tMore q a b=some q'):
  Calls Tryz.prog 125 #[.int .i64 a,.int .i64 b,.pointer (some ⟨gwt,0,none⟩),.pointer (some ⟨gwp,0,none⟩)] W fun e W'=>e= .returned (.tuple #[])∧ ∃A' c',RevMid w wc W' X g gwp gwt n A9 c9 L q' A' c':=by
 refine(tape_more.calls X g gwp gwt n (.slice none 0 0) q.1 q.2 A c A9 c9 a b q' w W h.below h.fx h.st (fun k hk=>h.hX k (Nat.le_trans h.kept.1 hk)) hq).mono ?_;rintro e W' ⟨rfl,hb,hk,A',c',hs⟩;rw[h.len]at hk;exact⟨rfl,A',c',hs,h.fx,Kept.trans_ h.kept hk,hb,(tMore_len hq).trans h.len,h.hX⟩
theorem RevMid.less(h:RevMid w wc W X g gwp gwt n A9 c9 L q A c){a b:Int}(hq:tLess q a b=some q'):
  Calls Tryz.prog 126 #[.int .i64 a,.int .i64 b,.pointer (some ⟨gwt,0,none⟩),.pointer (some ⟨gwp,0,none⟩)] W fun e W'=>e= .returned (.tuple #[])∧ ∃A' c',RevMid w wc W' X g gwp gwt n A9 c9 L q' A' c':=by
 refine(tape_less.calls X g gwp gwt n (.slice none 0 0) q.1 q.2 A c A9 c9 a b q' w W h.below h.fx h.st (fun k hk=>h.hX k (Nat.le_trans h.kept.1 hk)) hq).mono ?_;rintro e W' ⟨rfl,hb,hk,A',c',hs⟩;rw[h.len]at hk;exact⟨rfl,A',c',hs,h.fx,Kept.trans_ h.kept hk,hb,(tLess_len hq).trans h.len,h.hX⟩
theorem RevMid.add(h:RevMid w wc W X g gwp gwt n A9 c9 L q A c){k a b:Int}(hl:q.1.length≤1000000):
  Calls Tryz.prog 72 #[.pointer (some ⟨g,0,none⟩),.int .i64 k,.int .i64 a,.int .i64 b] W fun e W'=>e= .returned (.int .i64 q.1.length)∧ ∃A' c',RevMid w wc W' X g gwp gwt n A9 c9 L (q.1++ [stepOf k a b],q.2) A' c':=by
 refine(tape_writer_add.calls X g n A c q.1 (.slice none 0 0) k a b w W h.below h.fx.hg h.st.tw (fun k hk=>h.hX k (Nat.le_trans h.kept.1 hk)) hl).mono ?_;rintro e W' ⟨rfl,hb,hk,A',c',ht⟩;have hw: ∀j,j< W.heap.size→ ¬ (j=g∨X j)→W'.heap[j]? =W.heap[j]?:=hk.2;refine⟨rfl,A',c',⟨ht,(hw gwp (blk_lt h.st.pw) (fun e=>e.elim h.fx.ng.1 h.fx.nX.1)).trans h.st.pw,(hw gwt (blk_lt h.st.pt) (fun e=>e.elim h.fx.ng.2.1 h.fx.nX.2)).trans h.st.pt,Kd.R_step h.st.row (fun j ho hl=>hw j hl (fun e=>e.elim ho.2 ho.1))⟩,h.fx,Kept.trans_ h.kept (Kept.mono_ hk (fun j hj=> .inl hj)),hb,h.len,h.hX⟩
theorem RevRun.enter(h:RevRun w wb Wr Y0 Y g gwp gwt n A9 c9 L q A c)(hf:RevFix w Y0 g gwp gwt)(hgp:gwp< wb.heap.size)(hgt:gwt< wb.heap.size)(hb:Below Wr.heap.size Wr wc):
  RevMid w wc wc (fun k=>Y k∨wc.heap.size≤k) g gwp gwt n A9 c9 L q A c:=by
 have hs:=hb.size;have hs0:=h.kept.1;refine⟨⟨(h.st.tw.below hb).mono (fun k hk _=> .inl hk),blk_below h.st.pw hb,blk_below h.st.pt hb,Kd.R_mono (Kd.R_below (Kd.R_bound h.st.row) hb) (fun k hk=>⟨fun e=>e.elim hk.1.1 (fun e=>by have:=hk.2.2;omega),hk.1.2⟩)⟩,
  ⟨hf.hg,hf.hwp,hf.hwt,hf.ng,fun e=>e.elim (fun e=>(h.hY gwp e).1.elim hf.nX.1 (fun e=>by omega)) (fun e=>by omega),fun e=>e.elim (fun e=>(h.hY gwt e).1.elim hf.nX.2 (fun e=>by omega)) (fun e=>by omega)⟩,
  ⟨Nat.le_refl _,fun _ _ _=>rfl⟩,h.below.trans (hb.mono h.below.size),h.len,fun k hk=> .inr hk⟩
theorem RevRun.leave(h:RevRun w wb Wr Y0 Y g gwp gwt n A9 c9 L q A c)(hb:Below Wr.heap.size Wr wc){A':Option Addr}{c':Nat}(hm:RevMid w wc W (fun k=>Y k∨wc.heap.size≤k) g gwp gwt n A9 c9 L q' A' c'):
  RevRun w wb W Y0 (fun k=>(Y k∨wc.heap.size≤k)∧k< W.heap.size) g gwp gwt n A9 c9 L q' A' c':=by
 have hs:=hb.size;have hs0:=h.kept.1;refine⟨⟨hm.st.tw.mono (fun k hk hl=>⟨hk,hl⟩),hm.st.pw,hm.st.pt,Kd.R_mono hm.st.row (fun k hk=>⟨fun e=>hk.1 e.1,hk.2⟩)⟩,fun k hk=>⟨hk.1.elim (fun e=>(h.hY k e).1) (fun e=> .inr (by omega)),hk.2⟩,⟨Nat.le_trans hs0 (Nat.le_trans hs hm.kept.1),fun k hk hn=>?_⟩,hm.below,hm.len⟩;refine(hm.kept.2 k (by omega) (fun e=>hn (e.elim (fun e=>e.elim (fun e=> .inl (.inl e)) (fun e=>e.elim (fun e=>(h.hY k e).1.elim (fun e=> .inl (.inr e)) (fun e=>by omega)) (fun e=>by omega))) (fun e=> .inr e)))).trans ((hb.block k (by omega)).trans (h.kept.2 k hk hn))
end
structure TailAt (w wb W:World) (Z0 Z:Nat→Prop) (g gz:Nat) (n:Int) (st:List S81) (z:Int) (out:List Int) (A:Option Addr) (c:Nat) (Ao:Option Addr) (co:Nat):Prop where
 tw:TWat w W Z g n A c st (.slice Ao out.length co)
 zc:W.heap[gz]? =some (.cells #[.int .i64 z] 3 (0,0))
 ro:Kd.R (Kd.int .i64) 3 W w.heap.size (fun j=>(¬Z j∧j≠g)∧(j≠gz∧wb.heap.size≤j)) (.slice Ao out.length co) out
 hZ: ∀j,Z j→(Z0 j∨wb.heap.size≤j)∧j< W.heap.size
 kept:Kept wb W (fun j=>(j=g∨Z0 j)∨j=gz)
 below:Below w.heap.size w W
structure TailFix (w wb:World) (Z0:Nat→Prop) (g gz:Nat):Prop where
 hg:w.heap.size≤g
 hgz:w.heap.size≤gz
 lt:gz< wb.heap.size
 ltg:g< wb.heap.size
 ne:gz≠g
 nz: ¬Z0 gz
section
variable {w wb W:World} {Z0 Z:Nat→Prop} {g gz:Nat} {n z:Int} {st:List S81} {out:List Int} {A:Option Addr} {c:Nat} {Ao:Option Addr} {co:Nat}
theorem TailAt.zero(hf:TailFix w wb Z0 g gz)(h:TailAt w wb W Z0 Z g gz n st z out A c Ao co){k:Nat}{r:Int×List S81}(hq:tZero k z st=some r):
  Calls Tryz.prog 74 #[.pointer (some ⟨g,0,none⟩),.pointer (some ⟨gz,0,none⟩)] W fun e W'=>e= .returned (.int .i64 r.1)∧ ∃A' c',TailAt w wb W' Z0 (fun j=>(Z j∨W.heap.size≤j)∧j< W'.heap.size) g gz n r.2 r.1 out A' c' Ao co:=by
 have hs:=h.kept.1;have hlt:=hf.lt;refine(tape_writer_zero.calls k (fun j=>Z j∨W.heap.size≤j) g gz n A c st (.slice Ao out.length co) z r w W h.below hf.hg hf.hgz (h.tw.mono (fun j hj _=> .inl hj)) (fun j hj=> .inr hj) (fun e=>e.elim (fun e=>(h.hZ gz e).1.elim hf.nz (fun e=>by omega)) (fun e=>by omega)) hf.ne h.zc hq).mono ?_;rintro e W' ⟨rfl,hb,hk,A',c',ht,hz⟩;refine⟨rfl,A',c',ht.mono (fun j hj hl=>⟨hj,hl⟩),hz,?_,fun j hj=>⟨hj.1.elim (fun e=>(h.hZ j e).1) (fun e=> .inr (by omega)),hj.2⟩,⟨Nat.le_trans hs hk.1,fun j hj hn=>?_⟩,hb⟩
 ·exact Kd.R_mono (Kd.R_step (Kd.R_bound h.ro) (fun j ho hl=>hk.2 j hl (fun e=>e.elim (fun e=>e.elim ho.1.1.2 (fun e=>e.elim ho.1.1.1 (fun e=>by omega))) ho.1.2.1))) (fun j ho=>⟨⟨fun e=>e.1.elim ho.1.1.1 (fun e=>by have:=ho.2.2.1;omega),ho.1.1.2⟩,ho.1.2⟩)
 ·exact(hk.2 j (by omega) (fun e=>hn (e.elim (fun e=>e.elim (fun e=> .inl (.inl e)) (fun e=>e.elim (fun e=>(h.hZ j e).1.elim (fun e=> .inl (.inr e)) (fun e=>by omega)) (fun e=>by omega))) .inr))).trans (h.kept.2 j hj hn)
theorem TailAt.put(hf:TailFix w wb Z0 g gz)(h:TailAt w wb W Z0 Z g gz n st z out A c Ao co){x:Int}{A1:Option Addr}{c1:Nat}{w4:World}(hR:Kd.R (Kd.int .i64) 3 w4 w.heap.size (fun j=>(¬Z j∧j≠g)∧(j≠gz∧wb.heap.size≤j)) (.slice A1 (out++ [x]).length c1) (out++ [x]))(hb:Below w.heap.size w w4)(hgr:World.grownBy W.drew w4 (Value.slice Ao out.length co).ownBlock):
  TailAt w wb (w4.setCell ⟨g,2,none⟩ (.slice A1 (out.length+1) c1)) Z0 Z g gz n st z (out++ [x]) A c A1 c1:=by
 have el:(out++ [x]).length=out.length+1:=by rw[List.length_append];rfl
 have hs:W.heap.size≤w4.heap.size:=hgr.size;have hs0:=h.kept.1;have hltg:=hf.ltg;have hltz:=hf.lt;have hblk: ∀j,j< W.heap.size→some j≠(Value.slice Ao out.length co).ownBlock→w4.heap[j]? =W.heap[j]?:=fun j hj hn=>hgr.block j hj hn
 have hown: ∀j,some j=(Value.slice Ao out.length co).ownBlock→(¬Z j∧j≠g)∧(j≠gz∧wb.heap.size≤j):=fun j hj=>h.ro.1 j hj.symm
 have hfar: ∀j,j≠g→(w4.setCell ⟨g,2,none⟩ (.slice A1 (out.length+1) c1)).heap[j]? =w4.heap[j]?:=fun j hj=>Below.heap_setCell _ _ _ j hj
 have hK4:w4.heap[g]? =some (.cells #[.int .i64 n,.slice A st.length c,.slice Ao out.length co] 98 (0,0)):=(hblk g (by omega) (fun e=>(hown g e).1.2 rfl)).trans h.tw.1;refine⟨⟨by rw[el];exact blk_put (w:=w4) hK4 2 _ rfl,Kd.N_step h.tw.2 (fun j ho hl=>(hfar j ho.2.1).trans (hblk j hl (fun e=>(hown j e).1.1 ho.2.2)))⟩,(hfar gz hf.ne).trans ((hblk gz (by omega) (fun e=>(hown gz e).2.1 rfl)).trans h.zc),Kd.R_step hR (fun j ho _=>hfar j ho.1.2),fun j hj=>⟨(h.hZ j hj).1,by have:=(h.hZ j hj).2;simp[World.setCell];omega⟩,⟨by simp[World.setCell];omega,fun j hj hn=>?_⟩,below_set hb hf.hg⟩;exact(hfar j (fun e=>hn (.inl (.inl e)))).trans ((hblk j (by omega) (fun e=>by have:=(hown j e).2.2;omega)).trans (h.kept.2 j hj hn))
end
theorem tape_reverse.calls0(k:Nat)(n:Int)(As:Option Addr)(cs:Nat)(ss:List S81)(Ao:Option Addr)(co:Nat)(os:List Int)(r:Int×List S81×List Int)(w:World)(hG:HasT w)
  (hr1:Kd.C k81 w As ss.length ss) (hc1:ss.length≤cs) (hr2:Kd.C (Kd.int .i64) w Ao os.length os) (hc2:os.length≤co) (h:tape_reverse.f k n ss os=some r):
  Calls Tryz.prog 68 #[.agg #[.int .i64 n,.slice As ss.length cs,.slice Ao os.length co]] w fun e w'=> ∃A c A' c',e= .returned (.agg #[.int .i64 r.1,.slice A r.2.1.length c,.slice A' r.2.2.length c'])∧(r.2.1.length≤c∧Kd.F k81 w' (fun k_=>w.heap.size≤k_) A r.2.1.length r.2.1)∧(r.2.2.length≤c'∧Kd.F (Kd.int .i64) w' (fun k_=>w.heap.size≤k_) A' r.2.2.length r.2.2)∧Below w.heap.size w w':=by
 have hu81:=Tryz.underlying81;have hu98:=Tryz.underlying98;have hu25:=Tryz.underlying25;unfold tape_reverse.f at h;obtain⟨⟨⟨hn0,hn1⟩,hs1,hs2⟩,h1⟩:=iN h;obtain⟨c,HC,h2⟩:=bO h1;obtain⟨st0,HS0,h3⟩:=bO h2;obtain⟨st1,HS1,h4⟩:=bO h3;obtain⟨e,HE,h5⟩:=bO h4;obtain rfl:=Option.some.inj h5;obtain⟨N,rfl⟩: ∃N:Nat,n=(N:Int):=⟨n.toNat,by omega⟩;have HLN:=sF (N≤ss.length) (by omega);have HC2:=sF (copyGo (ss.drop N) (rangeI N) (tInputs (N+os.length) [])=some c) (by have:=HC.out;rwa [Int.toNat_natCast]at this);have HS1':=sF (revLoop ss c.2 N (ss.length - N) st0=some st1) (by have:=HS1.out;rwa [Int.toNat_natCast]at this);have HE':=sF (revTail k (st1.2.take N) (-1) st1.1 [] =some e) (by have:=HE.out;rwa [Int.toNat_natCast]at this);have HG:=aM hG;have HR1:=aM (And.intro hr1 hc1);have HR2:=aM (And.intro hr2 hc2);have HSL:=aM (And.intro hs1 hs2);clear h h1 h2 h3 h4 h5 hG hr1 hc1 hr2 hc2 hn0 hn1 HC HS1 HE;go_enter Tryz.func68,Tryz.ntmps68
 go_upto_region 2 with (first
  | ((with_reducible refine gD 1 ?_);refine bx_ 1 #[.int .i64 N,.slice As ss.length cs,.slice Ao os.length co] 25 ?_;intro g1 hg w1 hbox hb;have G1:=aM (show w.heap.size≤g1 by rw[hg];exact Nat.le_refl _);have K1:=aM hbox;have HB1:=aM hb;clear hg hbox hb)
  | ((with_reducible refine gD 2 ?_);refine bx_ 2 #[.int .i64 0,.slice none 0 0,.slice none 0 0] 25 ?_;intro g2 hg w2 hbox hb;have G2:=aM (show w1.heap.size≤g2 by rw[hg];exact Nat.le_refl _);have K2:=aM hbox;have HB2:=aM hb;clear hg hbox hb)
  | ((with_reducible refine gD 18 ?_);refine bx_ 18 #[.int .i64 0,.slice none 0 0,.slice none 0 0] 98 ?_;intro g hg w3 hbox hb;have G3:=aM (show w2.heap.size≤g by rw[hg];exact Nat.le_refl _);have K3:=aM hbox;have HB3:=aM hb;clear hg hbox hb)
  | ((with_reducible refine gD 3 ?_);refine bx_ 3 #[.pointer none] 96 ?_;intro gwp hg w4 hbox hb;have G4:=aM (show w3.heap.size≤gwp by rw[hg];exact Nat.le_refl _);have K4:=aM hbox;have HB4:=aM hb;clear hg hbox hb;have y4:=blk_cell K4.out 0;have y4z:=blk_frozen K4.out 0))
 generalize hq_:World.setCell w4 ⟨gwp,0,none⟩ (.pointer (some ⟨g,0,none⟩))=w5;have hgwp4:gwp< w4.heap.size:=blk_lt K4.out;have hg3:g< w3.heap.size:=blk_lt K3.out;have hne5:g≠gwp:=by have:=G4.out;omega
 have KP5:=sF (w5.heap[gwp]? =some (.cells #[.pointer (some ⟨g,0,none⟩)] 96 (0,0))) (by rw[←hq_];exact blk_put (w:=w4) K4.out 0 _ rfl);have KG5:=sF (w5.heap[g]? =some (.cells #[.int .i64 0,.slice none 0 0,.slice none 0 0] 98 (0,0))) (by rw[←hq_];exact(Below.heap_setCell _ _ _ g hne5).trans (blk_below K3.out HB4.out));have hw12:w.heap.size≤w1.heap.size:=HB1.out.size;have hw23:w1.heap.size≤w2.heap.size:=HB2.out.size;have hw34:w2.heap.size≤w3.heap.size:=HB3.out.size;have hwg:w.heap.size≤g:=by have:=G3.out;omega
 have hwgp:w3.heap.size≤gwp:=G4.out;have HB5:=sF (Below w3.heap.size w3 w5) (by rw[←hq_];exact below_set HB4.out hwgp);have HB35:=sF (Below w2.heap.size w2 w5) (HB3.out.trans (HB5.out.mono HB3.out.size));have HB25:=sF (Below w1.heap.size w1 w5) (HB2.out.trans (HB35.out.mono HB2.out.size));have HBw5:=sF (Below w.heap.size w w5) (HB1.out.trans (HB25.out.mono HB1.out.size));have K15:=aM (blk_below K1.out HB25.out);have K25:=aM (blk_below K2.out HB35.out);have hl1:g1< w1.heap.size:=blk_lt K1.out;have hl2:g2< w2.heap.size:=blk_lt K2.out;have hg1w:w.heap.size≤g1:=G1.out;have hg2w:w1.heap.size≤g2:=G2.out;have hg3w:w2.heap.size≤g:=G3.out;have hw45:w3.heap.size≤w5.heap.size:=HB5.out.size;have hgp5:gwp< w5.heap.size:=blk_lt KP5.out;clear hq_ K1 K2 K3 K4 HB1 HB2 HB3 HB4 y4 y4z;obtain⟨x1,_,x2,_,x3,_⟩:=c3Q K15.out;have y4:=blk_cell KP5.out 0;have HT5:=sF (TWat w w5 (fun j=>w5.heap.size≤j) g 0 none 0 [] (.slice none 0 0)) (⟨KG5.out,Kd.N_nil _ _ _ _ _⟩);have HIN:=aM (show Calls Tryz.prog 69 #[.pointer (some ⟨g,0,none⟩),.int .i64 ((N:Int) + (os.length:Int))] w5 _ from by
  have h:=tape_writer_inputs.calls (fun j=>w5.heap.size≤j) g 0 none 0 [] (.slice none 0 0) (N+os.length) w w5 HBw5.out hwg HT5.out (fun _ hj=>hj) (by have:=HSL.out;have:=HLN.out;simp only[List.length_nil];omega) (by omega) (by omega);rw[Int.natCast_add]at h;exact h)
 have hb1:(N:Int)≤100000:=by have:=HSL.out.1;have:=HLN.out;omega
 have hb2:(os.length:Int)≤100000:=by have:=HSL.out.2;omega
 go_upto_region 3 with (go_at_call 69;(with_reducible refine HIN.out.mono ?_);rintro e_ w6 ⟨rfl,hb,hk,A6,c6,ht⟩;have HB6:=aM hb;have HK6:=aM hk;have HT6:=aM ht;clear hb hk ht)
 have hw56:w5.heap.size≤w6.heap.size:=HK6.out.1;have K16:=aM ((HK6.out.2 g1 (by omega) (fun e=>by rcases e with e|e<;>omega)).trans K15.out);have K26:=aM ((HK6.out.2 g2 (by omega) (fun e=>by rcases e with e|e<;>omega)).trans K25.out);have KP6:=aM ((HK6.out.2 gwp (by omega) (fun e=>by rcases e with e|e<;>omega)).trans KP5.out);clear x1 x2 x3 y4 HIN HT5 HB35 HB25 HB5;obtain⟨x1,_,x2,_,x3,_⟩:=c3Q K16.out;have y4:=blk_cell KP6.out 0;have HT6b:=aM (HT6.out.mono (Y:=fun j=>w5.heap.size≤j∧j< w6.heap.size) (fun j h1 h2=>⟨h1,h2⟩));have hsl1:=HSL.out.1;have hln:=HLN.out;go_upto_region 4 with (go_at_call 70;(with_reducible refine(tape_writer_copied.calls (fun j=>w5.heap.size≤j∧j< w6.heap.size) g _ A6 c6 _ (.slice none 0 0) N As cs ss Ao os.length co c w w6 HG.out HB6.out hwg HT6b.out (fun _ hj=>hj.2) HR1.out.1 HR1.out.2 hln hsl1 HC2.out).mono ?_);rintro e_ w7 ⟨A7,c7,Y,B7,d7,rfl,hb,hk,hy,ht,hr⟩;have HB7:=aM hb;have HK7:=aM hk;have HT7:=aM ht;have HY7:=aM hy;have HR7:=aM hr;clear hb hk ht hy hr)
 have hw67:w6.heap.size≤w7.heap.size:=HK7.out.1;have K17:=aM ((HK7.out.2 g1 (by omega) (fun e=>by rcases e with e|e<;>omega)).trans K16.out);have K27:=aM ((HK7.out.2 g2 (by omega) (fun e=>by rcases e with e|e<;>omega)).trans K26.out);have KP7:=aM ((HK7.out.2 gwp (by omega) (fun e=>by rcases e with e|e<;>omega)).trans KP6.out);clear x1 x2 x3 y4 HT6 HT6b HK6 HK7 HB6 K15 K16 K25 K26 KP5 KP6 KG5 HBw5;obtain⟨x1,_,x2,_,x3,_⟩:=c3Q K17.out;have y4:=blk_cell KP7.out 0;have hinfoI:(Tryz.prog.info? 3).map (fun i=>(i.zero,i.size,i.bytes))=some (some (.int .i64 0),1,8):=by kernel_rfl
 have HSL6:=sF (ss.length≤1000000) (by omega);have HII:=aM hinfoI;clear hinfoI;go_upto_region 5 with (first
  | ((with_reducible refine gD 30 ?_);refine li_ (Kd.int .i64) 3 30 ([-1] :List Int) [.int .i64 (-1)] (Reps.snoc (Reps.none _ _) (show Kd.M (Kd.int .i64) _ _ _ (-1) [.int .i64 (-1)]from rfl) rfl) ?_;intro v30 w8 ho hb _ _;obtain⟨A8,c8,e8⟩:=Kd.R_slice ho;subst e8;have HO8:=aM ho;have HCO8:=sF (Kd.C (Kd.int .i64) w8 A8 1 [-1]) ((Kd.R_reads' HO8.out).2.2);have HB8:=aM hb;have K18:=aM (blk_below K17.out hb);have KP8:=aM (blk_below KP7.out hb);clear ho hb x1 x2 x3 y4;obtain⟨x1,_,x2,_,x3,_⟩:=c3Q K18.out;have y4:=blk_cell KP8.out 0)
  | (go_at_call 124;(with_reducible refine(slices_Repeat_one.calls A8 c8 (-1) ss.length w8 HCO8.out HSL6.out).mono ?_);rintro e_ w9 ⟨v34,rfl,ho,hb⟩;obtain⟨A9,c9,e9⟩:=Kd.R_slice ho;subst e9;have HO9:=aM ho;have HB9:=aM hb;have K19:=aM (blk_below K18.out hb);have KP9:=aM (blk_below KP8.out hb);clear ho hb x1 x2 x3 y4;obtain⟨x1,_,x2,_,x3,_⟩:=c3Q K19.out;have y4:=blk_cell KP9.out 0)
  | ((with_reducible refine gD 5 ?_);refine bx_ 5 #[.slice none 0 0] 23 ?_;intro gwt hg w10 hbox hb;have G10:=aM (show w9.heap.size≤gwt by rw[hg];exact Nat.le_refl _);have K10:=aM hbox;have HB10:=aM hb;clear hg hbox hb;have y5:=blk_cell K10.out 0;have y5z:=blk_frozen K10.out 0))
 generalize hq_:World.setCell w10 ⟨gwt,0,none⟩ (.slice A9 ss.length c9)=w11;have hw78:w7.heap.size≤w8.heap.size:=HB8.out.size;have hw89:w8.heap.size≤w9.heap.size:=HB9.out.size;have hw910:w9.heap.size≤w10.heap.size:=HB10.out.size;have hgtl:w9.heap.size≤gwt:=G10.out;have hgtu:gwt< w10.heap.size:=blk_lt K10.out;have hfar11: ∀j,j≠gwt→w11.heap[j]? =w10.heap[j]?:=fun j hj=>by rw[←hq_];exact Below.heap_setCell _ _ _ j hj
 have HPT11:=sF (w11.heap[gwt]? =some (.cells #[.slice A9 ss.length c9] 23 (0,0))) (by rw[←hq_];exact blk_put (w:=w10) K10.out 0 _ rfl);have HB11:=sF (Below w9.heap.size w9 w11) (by rw[←hq_];exact below_set HB10.out hgtl);have hw11:w11.heap.size=w10.heap.size:=by rw[←hq_];simp[World.setCell]
 have HB711:=sF (Below w7.heap.size w7 w11) (HB8.out.trans ((HB9.out.trans (HB11.out.mono HB9.out.size)).mono HB8.out.size));have HBw11:=sF (Below w.heap.size w w11) (HB7.out.trans (HB711.out.mono HB7.out.size));have K1b:=aM (blk_below K19.out HB11.out);have K2b:=aM (blk_below K27.out HB711.out);have HPW11:=aM (blk_below KP9.out HB11.out);have hY7: ∀j,Y j→w5.heap.size≤j∧j< w7.heap.size:=fun j hj=>by have h1:=HY7.out j hj;exact⟨h1.1.elim (fun e=>e.1) (fun e=>by omega),h1.2⟩
 have hown: ∀j,some j=(Value.slice A9 ss.length c9).ownBlock→w8.heap.size≤j∧j< w9.heap.size:=fun j hj=>by
  have h1:=(Kd.R_bound HO9.out).1 j (by rw[List.length_replicate];exact hj.symm);exact⟨h1.2.1,h1.2.2.1⟩
 have HF11:=sF (RevFix w Y g gwp gwt) (⟨hwg,by omega,by omega,⟨by omega,by omega,by omega⟩,fun e=>by have:=hY7 gwp e;omega,fun e=>by have:=hY7 gwt e;omega⟩);have HR11:=aM (show RevRun w w11 w11 Y Y g gwp gwt ((N:Int) + (os.length:Int)) A9 c9 ss.length (c.1,List.replicate ss.length (-1)) B7 d7 from⟨⟨by
   have h1:=HT7.out.below HB711.out
   rwa [Int.zero_add]at h1,HPW11.out,by rw[List.length_replicate];exact HPT11.out,by
   rw[List.length_replicate];have ho9:=Kd.R_below (Kd.R_bound HO9.out) HB11.out;rw[List.length_replicate]at ho9;exact Kd.R_lower (Kd.R_mono ho9 (fun k hk=>⟨fun e=>by have h1:=hY7 k e;have h2:=hk.2.1;omega,by have h2:=hk.2.1;omega⟩)) (show w.heap.size≤w8.heap.size by omega)⟩,fun k hk=>⟨.inl hk,by have:=hY7 k hk;omega⟩,⟨Nat.le_refl _,fun _ _ _=>rfl⟩,HBw11.out,List.length_replicate⟩)
 have HTO:=sF (Kd.R (Kd.int .i64) 3 w11 w.heap.size (fun j=> ¬ ((j=g∨Y j)∨some j=(Value.slice A9 ss.length c9).ownBlock)) (.slice A7 c.2.length c7) c.2) (Kd.R_mono (Kd.R_below (Kd.R_bound HR7.out) HB711.out) (fun k hk=>fun e=>e.elim (fun e=>e.elim (fun e=>by have:=hk.1.1;omega) hk.1.2) (fun e=>by have:=hown k e;have:=hk.2.2;omega)));have hng1: ¬ ((g1=g∨Y g1)∨some g1=(Value.slice A9 ss.length c9).ownBlock):=fun e=>e.elim (fun e=>e.elim (fun e=>by omega) (fun e=>by have:=hY7 g1 e;omega)) (fun e=>by have:=hown g1 e;omega)
 have hng2: ¬ ((g2=g∨Y g2)∨some g2=(Value.slice A9 ss.length c9).ownBlock):=fun e=>e.elim (fun e=>e.elim (fun e=>by omega) (fun e=>by have:=hY7 g2 e;omega)) (fun e=>by have:=hown g2 e;omega)
 have HN1:=aM hng1;have HN2:=aM hng2;have hb1l:g1< w11.heap.size:=by omega
 have hb2l:g2< w11.heap.size:=by omega
 have hbpl:gwp< w11.heap.size:=by omega
 have hbtl:gwt< w11.heap.size:=by omega
 have G2':=sF (w.heap.size≤g2) (by omega);clear hq_ hfar11 hng1 hng2 hY7 hown HB11 HB10 HB9 HB8 HB7 HB711 K10 K17 K18 K19 K27 KP7 KP8 KP9 HO8 HO9 HCO8 HPT11 HPW11 HR7 HT7 HY7 y5 y5z y4 x1 x2 x3 hl1 hl2 hg1w hg2w hg3w hw45 hgp5 hw12 hw23 hw34 hwgp hw56 hw67 hw78 hw89 hw910 hgtl hgtu hw11 hgwp4 hg3 hne5 HII HSL6;obtain⟨x1,_,x2,_,x3,_⟩:=c3Q K1b.out;go_wp2_with fail
 clear x1 x2 x3;go_loopg [40] os.length (fun gg v40 wl=> ∃ (i:Nat) (q:List S81×List Int) (Z:Nat→Prop) (A:Option Addr) (d:Nat),i≤os.length∧os.length - i≤gg∧v40= .int .i64 i∧Aside0 (revOut (N:Int) (os.drop i) i q=some st0)∧Aside0 (RevRun w w11 wl Y Z g gwp gwt ((N:Int) + (os.length:Int)) A9 c9 ss.length q A d))
 case atStart=>exact⟨0,_,Y,B7,d7,Nat.zero_le _,by omega,rfl,HS0,HR11⟩
 case round=>
  obtain⟨i,q,Z,A,d,hi,hgi,rfl,HQ,HRl⟩:=hrel;obtain⟨wl,hwl⟩: ∃wl:World,wl=wr:=⟨_,rfl⟩;subst hwl;have K1l:=aM ((HRl.out.kept.2 g1 hb1l HN1.out).trans K1b.out);obtain⟨x1,_,x2,_,x3,_⟩:=c3Q K1l.out;by_cases hlt:i< os.length
  ·have hltz:(i:Int)< (os.length:Int):=by omega
   have HLT:=sF (i+1≤os.length) (hlt);obtain⟨ad,e1,hx⟩:=Kd.at_int HR2.out.1 (i:Int) (by omega) hltz;subst e1;rw[Int.toNat_natCast]at hx;replace hx:=cE HRl.out.below hx;have hro:rd os (i:Int)=os[i] :=by unfold rd;rw[Int.toNat_natCast];simp[hlt]
   obtain⟨o,ho⟩: ∃o,o=os[i] :=⟨_,rfl⟩;rw[hro,←ho]at hx;have hd:os.drop i=o::os.drop (i+1):=by rw[ho];exact List.drop_eq_getElem_cons hlt
   have hQ:=HQ.out;rw[hd,revOut]at hQ;obtain⟨q',HM,hQ⟩:=bO hQ;have HQ':=aM hQ;have HMC:=aM ((HRl.out.enter HF11.out hbpl hbtl (Below.refl _ _)).more HM.out);clear hQ HQ hd ho hro;go_wp2_with (go_at_call 125;(with_reducible refine HMC.out.mono ?_);rintro e_ w9 ⟨rfl,A',d',hm⟩;have HR9:=aM (HRl.out.leave (Below.refl _ _) hm);clear hm)
   go_roundg (os.length - (i+1))
   case measure=>omega
   case rel=>exact⟨i+1,q',_,A',d',HLT.out,Nat.le_refl _,by go_num,HQ',HR9⟩
  ·have hltz: ¬ (i:Int)< (os.length:Int):=by omega
   obtain rfl:i=os.length:=by omega
   have hQ:=HQ.out;rw[List.drop_length,revOut]at hQ;obtain rfl:=Option.some.inj hQ;clear hQ HQ;clear x1 x2 x3 K1l;have K1l:=aM ((HRl.out.kept.2 g1 hb1l HN1.out).trans K1b.out);obtain⟨x1,_,x2,_,x3,_⟩:=c3Q K1l.out;go_upto_block 2 with fail
   have HSZ:=sF ((ss.length:Int) - 1=(N:Int) + ((ss.length - N:Nat):Int) - 1) (by have:=HLN.out;omega);clear x1 x2 x3 hgi hi;go_wp2_with fail
   go_loopg [10] (ss.length - N) (fun gg v10 wl=> ∃ (d:Nat) (z:Int) (q:List S81×List Int) (Z:Nat→Prop) (A:Option Addr) (cc:Nat),N+d≤ss.length∧d≤gg∧Aside0 (z=(N:Int) + (d:Int) - 1)∧v10= .int .i64 z∧Aside0 (revLoop ss c.2 N d q=some st1)∧Aside0 (RevRun w w11 wl Y Z g gwp gwt ((N:Int) + (os.length:Int)) A9 c9 ss.length q A cc))
   case atStart=>exact⟨ss.length - N,_,q,Z,A,d,by omega,Nat.le_refl _,HSZ,rfl,HS1',HRl⟩
   case round=>
    clear HRl K1l;obtain⟨d,z,q,Z,A,cc,hd,hgd,HZ,rfl,HQ,HRl⟩:=hrel;obtain⟨wl,hwl⟩: ∃wl:World,wl=wr:=⟨_,rfl⟩;subst hwl;have K1l:=aM ((HRl.out.kept.2 g1 hb1l HN1.out).trans K1b.out);obtain⟨x1,_,x2,_,x3,_⟩:=c3Q K1l.out;obtain _|d:=d
    ·have hzn: ¬z≥(N:Int):=by have:=HZ.out;omega
     have hQ:=HQ.out;rw[revLoop]at hQ;obtain rfl:=Option.some.inj hQ;clear hQ HQ;go_upto_region 33 with fail
     clear hzn HZ hd hgd HS0 HR11;go_upto_region 34 with ((with_reducible refine gD 14 ?_);refine bx_ 14 #[.int .i64 0] 3 ?_;intro gz hg w12 hbox hb;have G12:=aM hg;have K12:=aM hbox;have HB12:=aM hb;clear hg hbox hb;have y12:=blk_cell K12.out 0;have y12z:=blk_frozen K12.out 0)
     generalize hq_:World.setCell w12 ⟨gz,0,none⟩ (.int .i64 (-1))=w13;have hgzl:gz=wl.heap.size:=G12.out;have hgzu:gz< w12.heap.size:=blk_lt K12.out;have KZ13:=sF (w13.heap[gz]? =some (.cells #[.int .i64 (-1)] 3 (0,0))) (by rw[←hq_];exact blk_put (w:=w12) K12.out 0 _ rfl);have HB13:=sF (Below wl.heap.size wl w13) (by rw[←hq_];exact below_set HB12.out (Nat.le_of_eq hgzl.symm));have hs13:w13.heap.size=w12.heap.size:=by rw[←hq_];simp[World.setCell]
     have hwl11:w11.heap.size≤wl.heap.size:=HRl.out.kept.1;have hlgl:g< wl.heap.size:=blk_lt HRl.out.st.tw.1;have hwlw:w.heap.size≤wl.heap.size:=HRl.out.below.size;have hZn: ∀j,j< w11.heap.size→ ¬Y j→ ¬Z j:=fun j hj hy e=>(HRl.out.hY j e).1.elim hy (fun e=>by omega)
     have hown9: ∀j,some j=(Value.slice A9 ss.length c9).ownBlock→ ¬Z j∧j≠g:=fun j hj=>HRl.out.st.row.1 j (by rw[HRl.out.len];exact hj.symm)
     have HF13:=sF (TailFix w w13 Z g gz) (⟨hwg,by omega,by omega,by omega,by omega,fun e=>by have:=(HRl.out.hY gz e).2;omega⟩);have HT13:=sF (TailAt w w13 w13 Z Z g gz ((N:Int) + (os.length:Int)) q.1 (-1) [] A cc none 0) (⟨HRl.out.st.tw.below HB13.out,KZ13.out,Kd.R_nil _ _ _ _ _,fun j hj=>⟨.inl hj,by have:=(HRl.out.hY j hj).2;omega⟩,⟨Nat.le_refl _,fun _ _ _=>rfl⟩,HRl.out.below.trans (HB13.out.mono hwlw)⟩);have HW13:=aM (show Kd.R (Kd.int .i64) 3 w13 w.heap.size (fun j=> ¬ ((j=g∨Z j)∨j=gz)) (.slice A9 ss.length c9) q.2 from by
      have h1:=Kd.R_below (Kd.R_bound HRl.out.st.row) HB13.out;rw[HRl.out.len]at h1;exact Kd.R_mono h1 (fun j hj e=>e.elim (fun e=>e.elim hj.1.2 hj.1.1) (fun e=>by have:=hj.2.2.1;omega)))
     have KP13:=aM (blk_below HRl.out.st.pw HB13.out);have KT13:=sF (w13.heap[gwt]? =some (.cells #[.slice A9 ss.length c9] 23 (0,0))) (by have h1:=blk_below HRl.out.st.pt HB13.out;rwa [HRl.out.len]at h1);have K113:=aM (blk_below K1l.out HB13.out);have K213:=aM (blk_below ((HRl.out.kept.2 g2 hb2l HN2.out).trans K2b.out) HB13.out);have NP13:=sF (¬ ((gwp=g∨Z gwp)∨gwp=gz)) (fun e=>e.elim (fun e=>e.elim HF11.out.ng.1 (hZn gwp hbpl HF11.out.nX.1)) (fun e=>by omega));have N213:=sF (¬ ((g2=g∨Z g2)∨g2=gz)) (fun e=>e.elim (fun e=>e.elim (fun e=>HN2.out (.inl (.inl e))) (hZn g2 hb2l (fun e=>HN2.out (.inl (.inr e))))) (fun e=>by omega));have hl13p:gwp< w13.heap.size:=by omega
     have hl132:g2< w13.heap.size:=by omega
     have HQT:=aM HRl.out.len;clear hq_ hs13 hZn hown9 hgzl hgzu hwl11 hlgl hwlw HRl K12 HB12 G12 HB13 KZ13 K1l y12 y12z x1 x2 x3;obtain⟨x1,_,x2,_,x3,_⟩:=c3Q K113.out;have y5:=blk_cell KT13.out 0;have hN1:=HLN.out;have hcap:(N:Int)≤(c9:Int):=by have:=(Kd.R_reads' HW13.out).2.1;have:=HQT.out;omega
     have HFX:=sF (∀j,some j=(Value.slice A9 ss.length c9).ownBlock→True) (fun _ _=>trivial);go_wp2_with fail
     clear x1 x2 x3 y5 HFX;go_loopg [164] N (fun gg v164 wl=> ∃ (i:Nat) (Zt:Nat→Prop) (st:List S81) (z:Int) (out:List Int) (At:Option Addr) (ct:Nat) (Ao:Option Addr) (co:Nat),i≤N∧N - i≤gg∧v164= .int .i64 i∧Aside0 (revTail k ((q.2.take N).drop i) z st out=some e)∧Aside0 (out.length=i)∧Aside0 (TailAt w w13 wl Z Zt g gz ((N:Int) + (os.length:Int)) st z out At ct Ao co))
     case atStart=>exact⟨0,Z,q.1,-1,[],A,cc,none,0,Nat.zero_le _,by omega,rfl,HE',⟨rfl⟩,HT13⟩
     case round=>
      obtain⟨i,Zt,st,z,out,At,ct,Ao,co,hi,hgi,rfl,HQ,HOL0,HTl⟩:=hrel;obtain⟨wt,hwt⟩: ∃wt:World,wt=wr:=⟨_,rfl⟩;subst hwt;have KPt:=aM ((HTl.out.kept.2 gwp hl13p NP13.out).trans KP13.out);have y4:=blk_cell KPt.out 0;by_cases hlt:i< N
      ·have hltz:(i:Int)< (N:Int):=by omega
       have HLT:=sF (i+1≤N) (hlt);have hqi:i< q.2.length:=by have:=HQT.out;omega
       obtain⟨ad9,e9,hx⟩:=Kd.at_int (Kd.R_reads' (Kd.R_step HW13.out (fun j ho hl=>HTl.out.kept.2 j hl ho))).2.2 (i:Int) (by omega) (by omega);subst e9;rw[Int.toNat_natCast]at hx;obtain⟨x,hxx⟩: ∃x,x=rd q.2 (i:Int):=⟨_,rfl⟩;rw[←hxx]at hx;have hd:(q.2.take N).drop i=x::(q.2.take N).drop (i+1):=by
        have h1:i< (q.2.take N).length:=by rw[List.length_take];omega
        rw[List.drop_eq_getElem_cons h1,hxx];unfold rd;rw[Int.toNat_natCast,List.getElem_take,List.getD_eq_getElem?_getD,List.getElem?_eq_getElem hqi];rfl
       have hQ:=HQ.out;rw[hd,revTail]at hQ;have HOL:=sF ((out.length+1) * 8≤140737488355328) (by have:=HOL0.out;have:=HSL.out.1;have:=HLN.out;omega);clear hd hxx HQ hqi;by_cases ex:x= -1
       ·rw[if_pos ex]at hQ;obtain⟨r,HZR,hQ⟩:=bO hQ;have HQ':=aM hQ;subst ex;clear hQ;have HZC:=aM (HTl.out.zero HF13.out HZR.out);go_upto_region 39 with (go_at_call 74;(with_reducible refine HZC.out.mono ?_);rintro e_ wq ⟨rfl,Aq,cq,hm⟩;have HTq:=aM hm;clear hm)
        obtain⟨Zq,hZq⟩: ∃Zq:Nat→Prop,Zq=(fun j=>(Zt j∨wt.heap.size≤j)∧j< wq.heap.size):=⟨_,rfl⟩;rw[←hZq]at HTq;obtain⟨xq,hxq⟩: ∃xq,xq=r.1:=⟨_,rfl⟩;rw[←hxq]at HTq HQ' ⊢;clear hZq hxq;have HFR:=aM (show∀j,wq.drew.heap.size≤j→(¬Zq j∧j≠g)∧(j≠gz∧w13.heap.size≤j)from fun j hj=>by
         have h1:wq.heap.size≤j:=hj;have h2:=HTq.out.kept.1;have h3:=HF13.out.ltg;have h4:=HF13.out.lt;exact⟨⟨fun e=>by have:=(HTq.out.hZ j e).2;omega,by omega⟩,by omega,by omega⟩)
        have HNO:=sF ((gwp< wq.drew.heap.size∧some gwp≠(Value.slice Ao out.length co).ownBlock∧g< wq.drew.heap.size∧some g≠(Value.slice Ao out.length co).ownBlock)) (⟨Nat.lt_of_lt_of_le hl13p HTq.out.kept.1,fun e=>by have:=(HTq.out.ro.1 gwp e.symm).2.2;omega,Nat.lt_of_lt_of_le HF13.out.ltg HTq.out.kept.1,fun e=>(HTq.out.ro.1 g e.symm).1.2 rfl⟩);have KPq:=aM ((HTq.out.kept.2 gwp hl13p NP13.out).trans KP13.out);clear y4;have y4:wq.cell? ⟨gwp,0,none⟩=some (.pointer (some ⟨g,0,none⟩)):=blk_cell KPq.out 0;have y6:wq.cell? ⟨g,2,none⟩=some (.slice Ao out.length co):=blk_cell HTq.out.tw.1 2;have y6z:=blk_frozen HTq.out.tw.1 2;go_upto_region 39 with fail
        refine start_ (n:=13) (S:=fun w'=>w'.cell? ⟨gwp,0,none⟩=some (.pointer (some ⟨g,0,none⟩))∧w'.cell? ⟨g,2,none⟩=some (.slice Ao out.length co)) (ds:= [12]) (M_ 13 0) (by kernel_rfl) rfl (by kernel_rfl) ⟨y4,y6⟩ (fun hHeld=>?_);refine pu_ 6 (some 178) (M_ 13 64) ?_;refine ta_ 0 (some 172) (M_ 13 65) hHeld ?_;refine ta_ 1 (some 173) (M_ 13 67) hHeld ?_;refine pu_ 2 (some 174) (M_ 13 71) ?_;refine pu_ 3 (some 175) (M_ 13 79) ?_;refine pu_ 4 (some 176) (M_ 13 95) ?_;refine ta_ 5 (some 177) (M_ 13 127) hHeld ?_;refine one_ (i:=7) (N:=some 179) (M_ 13 255) rfl rfl (by kernel_rfl) (by decide) (fun K hK=>?_);refine value_ (w1:=?_) (v:=?_) (by rfl) rfl ?_ ?_;rotate_left 2
        ·go_simp;constructor
         ·rfl
         ·rfl
        refine hK.out _ _ ⟨cE (below_alloc (Below.refl _ _) _) (hHeld.1),cE (below_alloc (Below.refl _ _) _) (hHeld.2)⟩ (fun hHeld=>?_);clear hK K;refine no_ 179 ?_;refine one_ (i:=8) (N:=some 180) (M_ 13 511) rfl rfl (by kernel_rfl) (by decide) (fun K hK=>?_);refine Kd.R_append_step (Kd.int .i64) (w0:=w) (W:=wq.drew) w.heap.size (by rfl) (.tmp 177) (.tmp 179) 23 3 (.int .i64 0) 8 (by rfl) Tryz.underlying23 infoIntT rfl (by decide) (by omega) (.slice Ao out.length co) out xq [.int .i64 xq] (fun j=>(¬Zq j∧j≠g)∧(j≠gz∧w13.heap.size≤j)) (fun _=>False) (by rfl) (by rfl) (by exact rfl) (fun _ hk=>hk.elim) HFR.out (Kd.R_drew HTq.out.ro) (below_drew1 HTq.out.below) HTq.out.below.size HOL.out ?_;intro v47 w47 hR hb hg hat;obtain⟨A47,c47,e47⟩:=Kd.R_slice hR;subst e47;have HR47:=aM hR;have HB47:=aM hb;have HG47:=aM hg;have hS1_:w47.cell? ⟨gwp,0,none⟩=some (.pointer (some ⟨g,0,none⟩)):=(World.cell?_of_block (hg.block gwp HNO.out.1 HNO.out.2.1)).trans y4;have hS2_:w47.cell? ⟨g,2,none⟩=some (.slice Ao out.length co):=(World.cell?_of_block (hg.block g HNO.out.2.2.1 HNO.out.2.2.2)).trans y6;have hfz_:w47.frozen? ⟨g,2,none⟩=false:=(World.frozen?_of_block (hg.block g HNO.out.2.2.1 HNO.out.2.2.2)).trans y6z;clear hR hb hg hat;refine hK.out _ _ ⟨hS1_,hS2_⟩ (fun hHeld=>?_);clear hK K;refine no_ 180 ?_;refine pu_ 9 (some 181) (M_ 13 1023) ?_;refine pu_ 10 (some 182) (M_ 13 2047) ?_;refine pu_ 11 (some 183) (M_ 13 4095) ?_;refine last_ (i:=12) (N:=none) (M_ 13 8191) rfl rfl (by kernel_rfl) (by decide) (fun K hK=>?_);refine skip_ (w1:=?_) (by rfl) rfl ?_ ?_;rotate_left
        ·go_simp;rfl
        refine hK.out _ _ ?_;clear hK K;refine done_ (by kernel_rfl) ?_;have HT48:=aM (HTq.out.put HF13.out HR47.out HB47.out HG47.out);have HL48:=sF ((out++ [xq]).length=i+1) (by rw[List.length_append,HOL0.out];rfl);clear hS1_ hS2_ hfz_ y4 y6 y6z;go_wp2_with fail
        go_roundg (N - (i+1))
        case measure=>omega
        case rel=>exact⟨i+1,Zq,_,_,out++ [xq],_,_,A47,c47,HLT.out,Nat.le_refl _,by go_num,HQ',HL48,HT48⟩
       ·rw[if_neg ex]at hQ;have HQ':=aM hQ;have ex0:(x== -1)=false:=by simpa using ex
        clear hQ ex;have HTq:=HTl;obtain⟨wq,hwq⟩: ∃wq:World,wq=wt:=⟨_,rfl⟩;subst hwq;obtain⟨Zq,hZq⟩: ∃Zq:Nat→Prop,Zq=Zt:=⟨_,rfl⟩;subst hZq;obtain⟨xq,hxq⟩: ∃xq,xq=x:=⟨_,rfl⟩;subst hxq;have HFR:=aM (show∀j,wq.drew.heap.size≤j→(¬Zq j∧j≠g)∧(j≠gz∧w13.heap.size≤j)from fun j hj=>by
         have h1:wq.heap.size≤j:=hj;have h2:=HTq.out.kept.1;have h3:=HF13.out.ltg;have h4:=HF13.out.lt;exact⟨⟨fun e=>by have:=(HTq.out.hZ j e).2;omega,by omega⟩,by omega,by omega⟩)
        have HNO:=sF ((gwp< wq.drew.heap.size∧some gwp≠(Value.slice Ao out.length co).ownBlock∧g< wq.drew.heap.size∧some g≠(Value.slice Ao out.length co).ownBlock)) (⟨Nat.lt_of_lt_of_le hl13p HTq.out.kept.1,fun e=>by have:=(HTq.out.ro.1 gwp e.symm).2.2;omega,Nat.lt_of_lt_of_le HF13.out.ltg HTq.out.kept.1,fun e=>(HTq.out.ro.1 g e.symm).1.2 rfl⟩);have KPq:=aM ((HTq.out.kept.2 gwp hl13p NP13.out).trans KP13.out);clear y4;have y4:wq.cell? ⟨gwp,0,none⟩=some (.pointer (some ⟨g,0,none⟩)):=blk_cell KPq.out 0;have y6:wq.cell? ⟨g,2,none⟩=some (.slice Ao out.length co):=blk_cell HTq.out.tw.1 2;have y6z:=blk_frozen HTq.out.tw.1 2;go_upto_region 39 with fail
        refine start_ (n:=13) (S:=fun w'=>w'.cell? ⟨gwp,0,none⟩=some (.pointer (some ⟨g,0,none⟩))∧w'.cell? ⟨g,2,none⟩=some (.slice Ao out.length co)) (ds:= [12]) (M_ 13 0) (by kernel_rfl) rfl (by kernel_rfl) ⟨y4,y6⟩ (fun hHeld=>?_);refine pu_ 6 (some 178) (M_ 13 64) ?_;refine ta_ 0 (some 172) (M_ 13 65) hHeld ?_;refine ta_ 1 (some 173) (M_ 13 67) hHeld ?_;refine pu_ 2 (some 174) (M_ 13 71) ?_;refine pu_ 3 (some 175) (M_ 13 79) ?_;refine pu_ 4 (some 176) (M_ 13 95) ?_;refine ta_ 5 (some 177) (M_ 13 127) hHeld ?_;refine one_ (i:=7) (N:=some 179) (M_ 13 255) rfl rfl (by kernel_rfl) (by decide) (fun K hK=>?_);refine value_ (w1:=?_) (v:=?_) (by rfl) rfl ?_ ?_;rotate_left 2
        ·go_simp;constructor
         ·rfl
         ·rfl
        refine hK.out _ _ ⟨cE (below_alloc (Below.refl _ _) _) (hHeld.1),cE (below_alloc (Below.refl _ _) _) (hHeld.2)⟩ (fun hHeld=>?_);clear hK K;refine no_ 179 ?_;refine one_ (i:=8) (N:=some 180) (M_ 13 511) rfl rfl (by kernel_rfl) (by decide) (fun K hK=>?_);refine Kd.R_append_step (Kd.int .i64) (w0:=w) (W:=wq.drew) w.heap.size (by rfl) (.tmp 177) (.tmp 179) 23 3 (.int .i64 0) 8 (by rfl) Tryz.underlying23 infoIntT rfl (by decide) (by omega) (.slice Ao out.length co) out xq [.int .i64 xq] (fun j=>(¬Zq j∧j≠g)∧(j≠gz∧w13.heap.size≤j)) (fun _=>False) (by rfl) (by rfl) (by exact rfl) (fun _ hk=>hk.elim) HFR.out (Kd.R_drew HTq.out.ro) (below_drew1 HTq.out.below) HTq.out.below.size HOL.out ?_;intro v47 w47 hR hb hg hat;obtain⟨A47,c47,e47⟩:=Kd.R_slice hR;subst e47;have HR47:=aM hR;have HB47:=aM hb;have HG47:=aM hg;have hS1_:w47.cell? ⟨gwp,0,none⟩=some (.pointer (some ⟨g,0,none⟩)):=(World.cell?_of_block (hg.block gwp HNO.out.1 HNO.out.2.1)).trans y4;have hS2_:w47.cell? ⟨g,2,none⟩=some (.slice Ao out.length co):=(World.cell?_of_block (hg.block g HNO.out.2.2.1 HNO.out.2.2.2)).trans y6;have hfz_:w47.frozen? ⟨g,2,none⟩=false:=(World.frozen?_of_block (hg.block g HNO.out.2.2.1 HNO.out.2.2.2)).trans y6z;clear hR hb hg hat;refine hK.out _ _ ⟨hS1_,hS2_⟩ (fun hHeld=>?_);clear hK K;refine no_ 180 ?_;refine pu_ 9 (some 181) (M_ 13 1023) ?_;refine pu_ 10 (some 182) (M_ 13 2047) ?_;refine pu_ 11 (some 183) (M_ 13 4095) ?_;refine last_ (i:=12) (N:=none) (M_ 13 8191) rfl rfl (by kernel_rfl) (by decide) (fun K hK=>?_);refine skip_ (w1:=?_) (by rfl) rfl ?_ ?_;rotate_left
        ·go_simp;rfl
        refine hK.out _ _ ?_;clear hK K;refine done_ (by kernel_rfl) ?_;have HT48:=aM (HTq.out.put HF13.out HR47.out HB47.out HG47.out);have HL48:=sF ((out++ [xq]).length=i+1) (by rw[List.length_append,HOL0.out];rfl);clear hS1_ hS2_ hfz_ y4 y6 y6z;go_wp2_with fail
        go_roundg (N - (i+1))
        case measure=>omega
        case rel=>exact⟨i+1,Zq,_,_,out++ [xq],_,_,A47,c47,HLT.out,Nat.le_refl _,by go_num,HQ',HL48,HT48⟩
      ·have hltz: ¬ (i:Int)< (N:Int):=by omega
       obtain rfl:i=N:=by omega
       have hQ:=HQ.out;rw[List.drop_eq_nil_of_le (by rw[List.length_take];omega),revTail]at hQ;obtain rfl:=Option.some.inj hQ;clear hQ HQ;have KGt:=aM HTl.out.tw.1;have K2t:=aM ((HTl.out.kept.2 g2 hl132 N213.out).trans K213.out);obtain⟨p1,p1z,p2,p2z,p3,p3z⟩:=c3Q KGt.out;obtain⟨r1,r1z,r2,r2z,r3,r3z⟩:=c3Q K2t.out;go_wp2_with fail
       generalize hq_:World.setCell (World.setCell (World.setCell wt ⟨g2,0,none⟩ (.int .i64 ((i:Int) + (os.length:Int)))) ⟨g2,1,none⟩ (.slice At st.length ct)) ⟨g2,2,none⟩ (.slice Ao out.length co)=wz at *;have hg2w:w.heap.size≤g2:=G2'.out;have K2z:=aM (hq_▸blk3T K2t.out (.int .i64 ((i:Int) + (os.length:Int))) (.slice At st.length ct) (.slice Ao out.length co):wz.heap[g2]? =some (.cells #[.int .i64 ((i:Int) + (os.length:Int)),.slice At st.length ct,.slice Ao out.length co] 25 (0,0)));have HBz:=aM (hq_▸below3T HTl.out.below hg2w (.int .i64 ((i:Int) + (os.length:Int))) (.slice At st.length ct) (.slice Ao out.length co):Below w.heap.size w wz);have hfar: ∀k,k≠g2→wz.heap[k]? =wt.heap[k]?:=fun k hne=>by
        rw[←hq_];exact(Below.heap_setCell _ _ _ k hne).trans ((Below.heap_setCell _ _ _ k hne).trans (Below.heap_setCell _ _ _ k hne))
       have hnZ: ¬Zt g2:=fun e=>(HTl.out.hZ g2 e).1.elim (fun e=>N213.out (.inl (.inr e))) (fun e=>by omega)
       have hNz:=Kd.N_step HTl.out.tw.2 (fun k hk _=>hfar k (fun e=>hnZ (e▸hk.2.2)));have hRz:=Kd.R_step HTl.out.ro (fun k hk _=>hfar k (fun e=>by have:=hk.2.2;omega));have hRbz: ∀k,((¬Zt k∧k≠g)∧(k≠gz∧w13.heap.size≤k))→w.heap.size≤k:=fun k hk=>Nat.le_trans HT13.out.below.size hk.2.2
       refine bodyPost_ret (results_cell_row rfl _ _ g2 25 #[.int .i64 ((i:Int) + (os.length:Int)),.slice At st.length ct,.slice Ao out.length co] (0,0) _ rfl K2z.out Tryz.underlying25 rfl (by kernel_rfl)) rfl ?_;exact⟨At,ct,Ao,co,rfl,⟨(Kd.N_reads' hNz).2.1,Kd.F_mono (Kd.N_F hNz) (fun k hk=>hk.1)⟩,⟨(Kd.R_reads' hRz).2.1,Kd.F_mono (Kd.R_F hRz) hRbz⟩,HBz.out⟩
    ·have hzn:z≥(N:Int):=by have:=HZ.out;omega
     obtain⟨i,hzi,hii⟩: ∃i:Nat,z=(i:Int)∧i=N+d:=⟨N+d,by have:=HZ.out;omega,rfl⟩;subst hzi;have HII:=aM hii;have hil:i< ss.length:=by omega
     have hilz:(i:Int)< (ss.length:Int):=by omega
     have HLD:=sF (N+d≤ss.length) (by omega);clear hii;have hQ:=HQ.out;rw[revLoop,←HII.out]at hQ;obtain⟨q',HST,hQ⟩:=bO hQ;have HQ':=aM hQ;clear hQ HQ;obtain⟨ad,A5,c5,A6,c6,e0,p0,p1,p2,p3,p4,p5,p6,l5,q5,l6,q6⟩:=at_T81 HR1.out.1 (i:Int) (by omega) hilz;subst e0;have hx:rd_T81 ss (i:Int)=ss[i] :=by unfold rd_T81;rw[Int.toNat_natCast];simp[hil]
     have hx2:ss.getD i ⟨0,0,0,zRat⟩=ss[i] :=by simp[hil]
     obtain⟨s,hs⟩: ∃s,s=ss[i] :=⟨_,rfl⟩;rw[hx,←hs]at p0 p1 p2 p3 p4 p5 p6 l5 q5 l6 q6;have HST2:=sF (revStep c.2 s i q=some q') (by have:=HST.out;rwa [hx2,←hs]at this);rw[Int.toNat_natCast]at p0 p1 p2 p3 p4 p5 p6;clear HST hx hx2 hs l5 q5 l6 q6;replace p0:=cE HRl.out.below p0;replace p1:=cE HRl.out.below p1;replace p2:=cE HRl.out.below p2;replace p3:=cE HRl.out.below p3;replace p4:=cE HRl.out.below p4;replace p5:=cE HRl.out.below p5;replace p6:=cE HRl.out.below p6;have hlq:q.2.length=ss.length:=HRl.out.len;obtain⟨ad9,e9,y9⟩:=Kd.at_int (Kd.R_reads' HRl.out.st.row).2.2 (i:Int) (by omega) (by rw[hlq];exact hilz);subst e9;have y5:=blk_cell HRl.out.st.pt 0;rw[hlq]at y5;rw[Int.toNat_natCast]at y9;clear hlq;obtain⟨y,hy⟩: ∃y,y=rd q.2 (i:Int):=⟨_,rfl⟩;rw[←hy]at y9;have HY:=aM hy;clear hy;have y5':wl.cell? ⟨gwt,0,none⟩=some (.slice (some ad9) ss.length c9):=y5;clear y5;go_upto_region 15 with fail
     go_region_held3 (fun w'=>w'.cell? ⟨g1,1,none⟩=some (.slice (some ad) ss.length cs)∧w'.cell? (ad.add (i * 7))=some (.int .i64 s.f0)∧w'.cell? ⟨(ad.add (i * 7)).block,(ad.add (i * 7)).off+1,none⟩=some (.int .i64 s.f1)∧w'.cell? ⟨(ad.add (i * 7)).block,(ad.add (i * 7)).off+2,none⟩=some (.int .i64 s.f2)∧w'.cell? ⟨(ad.add (i * 7)).block,(ad.add (i * 7)).off+3,none⟩=some (.int .i64 s.f3.f0)∧w'.cell? ⟨(ad.add (i * 7)).block,(ad.add (i * 7)).off+4,none⟩=some (.bool s.f3.f1)∧w'.cell? ⟨(ad.add (i * 7)).block,(ad.add (i * 7)).off+5,none⟩=some (.slice A5 s.f3.f2.length c5)∧w'.cell? ⟨(ad.add (i * 7)).block,(ad.add (i * 7)).off+6,none⟩=some (.slice A6 s.f3.f3.length c6)∧w'.cell? ⟨gwt,0,none⟩=some (.slice (some ad9) ss.length c9)∧w'.cell? (ad9.add i)=some (.int .i64 y)) (go_keep) (fail)
     rename_i hh_
     clear hh_ p0 p1 p2 p3 p4 p5 p6 y5' y9;generalize hq_:(wl.alloc (Obj.cells #[Value.int .i64 s.f0,.int .i64 s.f1,.int .i64 s.f2,.int .i64 s.f3.f0,.bool s.f3.f1,.slice A5 s.f3.f2.length c5,.slice A6 s.f3.f3.length c6] 81)).drew=wc;have HBc:=sF (Below wl.heap.size wl wc) (by rw[←hq_];exact below_drew1 (below_alloc (Below.refl _ _) _));have K80:=sF (wc.heap[wl.heap.size]? =some (.cells #[Value.int .i64 s.f0,.int .i64 s.f1,.int .i64 s.f2,.int .i64 s.f3.f0,.bool s.f3.f1,.slice A5 s.f3.f2.length c5,.slice A6 s.f3.f3.length c6] 81 (0,0))) (by rw[←hq_];exact heap_alloc_new wl _);clear hq_;have hg8l:wl.heap.size< wc.heap.size:=blk_lt K80.out;have hgw11:g< w11.heap.size:=by have:=HRl.out.kept.1;have h1:=blk_lt HR11.out.st.tw.1;exact h1
     obtain⟨g8,hg8⟩: ∃g8,g8=wl.heap.size:=⟨_,rfl⟩;have HM0:=aM (HRl.out.enter HF11.out hbpl hbtl HBc.out);have N8:=aM (show¬ ((g8=g∨(Z g8∨wc.heap.size≤g8))∨some g8=(Value.slice (some ad9) ss.length c9).ownBlock)from fun e=>by
      have h0:=HRl.out.kept.1;rcases e with (e|e|e) |e
      ·omega
      ·have:=(HRl.out.hY g8 e).2;omega
      ·omega
      ·have h1:=(Kd.R_bound HRl.out.st.row).1 g8 (by rw[HRl.out.len];exact e.symm)
       have:=h1.2.2.1;omega)
     rw[←hg8]at hg8l K80 ⊢;clear hg8;obtain⟨z0,z1,z2,z3,z4,z5,z6⟩:=c7Q K80.out;have HZN:=sF ((i:Int) - 1=(N:Int) + (d:Int) - 1) (by have:=HII.out;omega);have hST:=HST2.out;unfold revStep at hST;rw[if_pos (by rw[HRl.out.len];exact hil),←HY.out]at hST;clear x1 x2 x3 HY HST2;by_cases ey:y= -1
     ·rw[if_pos ey]at hST;obtain rfl:=Option.some.inj hST;subst ey;clear hST;go_wp2_with fail
      go_roundg d
      case measure=>omega
      case rel=>exact⟨d,(i:Int) - 1,q,_,A,cc,HLD.out,Nat.le_refl _,HZN,rfl,HQ',⟨HRl.out.leave HBc.out HM0.out⟩⟩
     rw[if_neg ey]at hST;have ey0:(y== -1)=false:=by simpa using ey
     clear ey;by_cases e3:s.f0=3
     ·rw[if_pos e3]at hST;obtain⟨q1,HQ1,hST⟩:=bO hST;have HQ2:=aM hST;rw[e3]at z0;clear hST;go_wp2_with (first| (go_at_call 125;(with_reducible refine(HM0.out.more HQ1.out).mono ?_);rintro e_ W1 ⟨rfl,B1,b1,hm⟩;have HM1:=aM hm;have K81:=aM ((hm.kept.2 g8 hg8l N8.out).trans K80.out);clear hm z0 z1 z2 z3 z4 z5 z6;obtain⟨z0,z1,z2,z3,z4,z5,z6⟩:=c7Q K81.out) | (go_at_call 125;(with_reducible refine(HM1.out.more HQ2.out).mono ?_);rintro e_ W2 ⟨rfl,B2,b2,hm⟩;have HM2:=aM hm;have K82:=aM ((hm.kept.2 g8 hg8l N8.out).trans K80.out);clear hm z0 z1 z2 z3 z4 z5 z6;obtain⟨z0,z1,z2,z3,z4,z5,z6⟩:=c7Q K82.out))
      go_roundg d
      case measure=>omega
      case rel=>exact⟨d,(i:Int) - 1,q',_,B2,b2,HLD.out,Nat.le_refl _,HZN,rfl,HQ',⟨HRl.out.leave HBc.out HM2.out⟩⟩
     have t3:(s.f0==3)=false:=by simpa using e3
     rw[if_neg e3]at hST;by_cases e4:s.f0=4
     ·rw[if_pos e4]at hST;obtain⟨q1,HQ1,hST⟩:=bO hST;have HQ2:=aM hST;rw[e4]at z0;clear hST;go_wp2_with (first| (go_at_call 125;(with_reducible refine(HM0.out.more HQ1.out).mono ?_);rintro e_ W1 ⟨rfl,B1,b1,hm⟩;have HM1:=aM hm;have K81:=aM ((hm.kept.2 g8 hg8l N8.out).trans K80.out);clear hm z0 z1 z2 z3 z4 z5 z6;obtain⟨z0,z1,z2,z3,z4,z5,z6⟩:=c7Q K81.out) | (go_at_call 126;(with_reducible refine(HM1.out.less HQ2.out).mono ?_);rintro e_ W2 ⟨rfl,B2,b2,hm⟩;have HM2:=aM hm;have K82:=aM ((hm.kept.2 g8 hg8l N8.out).trans K80.out);clear hm z0 z1 z2 z3 z4 z5 z6;obtain⟨z0,z1,z2,z3,z4,z5,z6⟩:=c7Q K82.out))
      go_roundg d
      case measure=>omega
      case rel=>exact⟨d,(i:Int) - 1,q',_,B2,b2,HLD.out,Nat.le_refl _,HZN,rfl,HQ',⟨HRl.out.leave HBc.out HM2.out⟩⟩
     have t4:(s.f0==4)=false:=by simpa using e4
     rw[if_neg e4]at hST;by_cases e7:s.f0=7
     ·rw[if_pos e7]at hST;have HQ1:=aM hST;rw[e7]at z0;clear hST;go_wp2_with (go_at_call 126;(with_reducible refine(HM0.out.less HQ1.out).mono ?_);rintro e_ W1 ⟨rfl,B1,b1,hm⟩;have HM1:=aM hm;have K81:=aM ((hm.kept.2 g8 hg8l N8.out).trans K80.out);clear hm z0 z1 z2 z3 z4 z5 z6;obtain⟨z0,z1,z2,z3,z4,z5,z6⟩:=c7Q K81.out)
      go_roundg d
      case measure=>omega
      case rel=>exact⟨d,(i:Int) - 1,q',_,B1,b1,HLD.out,Nat.le_refl _,HZN,rfl,HQ',⟨HRl.out.leave HBc.out HM1.out⟩⟩
     have t7:(s.f0==7)=false:=by simpa using e7
     rw[if_neg e7]at hST;by_cases e5:s.f0=5
     ·rw[if_pos e5]at hST;obtain⟨q1,HT1,hST⟩:=bO hST;obtain⟨q2,HQ1,hST⟩:=bO hST;obtain⟨q3,HT3,hST⟩:=bO hST;have HQ3:=aM hST;rw[e5]at z0;clear hST;obtain⟨hj0,hT0⟩:=iN (show(if 0≤s.f2∧s.f2< (c.2.length:Int)then _ else none)=some _ from HT1.out);obtain⟨st0,HA0,hT0⟩:=bO hT0;obtain rfl:=Option.some.inj hT0;obtain⟨hl0,rfl⟩:=tAdd_len HA0.out;have j0a:0≤s.f2:=hj0.1;have j0b:s.f2< (c.2.length:Int):=hj0.2;have HJ0:=aM hj0;clear hj0;obtain⟨ad7,e7_,y7⟩:=Kd.at_int (Kd.R_reads' (Kd.R_step HTO.out (fun j ho hl=>(HRl.out.leave HBc.out HM0.out).kept.2 j hl ho))).2.2 s.f2 j0a j0b;subst e7_;have yp:wc.cell? ⟨gwp,0,none⟩=some (.pointer (some ⟨g,0,none⟩)):=blk_cell HM0.out.st.pw 0;go_upto_region 27 with fail
      go_region_held3 (fun w'=>w'.cell? ⟨g8,1,none⟩=some (.int .i64 s.f1)∧w'.cell? ⟨g8,2,none⟩=some (.int .i64 s.f2)∧w'.cell? ⟨gwp,0,none⟩=some (.pointer (some ⟨g,0,none⟩))∧w'.cell? (ad7.add s.f2.toNat)=some (.int .i64 (rd c.2 s.f2))) (first|exact hS_|go_keep) (first| (go_at_call 72;(with_reducible refine(HM0.out.drew.add (k:=5) (a:=y) (b:=_) hl0).mono ?_);rintro e_ W1 ⟨rfl,B1,b1,hm⟩;have HM1:=aM hm;have K81:=aM ((hm.kept.2 g8 hg8l N8.out).trans K80.out);clear hm;have hS_:=(show W1.cell? ⟨g8,1,none⟩=some (.int .i64 s.f1)∧W1.cell? ⟨g8,2,none⟩=some (.int .i64 s.f2)∧W1.cell? ⟨gwp,0,none⟩=some (.pointer (some ⟨g,0,none⟩))∧W1.cell? (ad7.add s.f2.toNat)=some (.int .i64 (rd c.2 s.f2))from⟨(c7Q K81.out).2.1,(c7Q K81.out).2.2.1,blk_cell HM1.out.st.pw 0,to_cell HTO.out (fun j ho hl=>(HRl.out.leave HBc.out HM1.out).kept.2 j hl ho) HJ0.out.1 HJ0.out.2⟩)) | (go_at_call 125;(with_reducible refine(HM1.out.more HQ1.out).mono ?_);rintro e_ W2 ⟨rfl,B2,b2,hm⟩;have HM2:=aM hm;have K82:=aM ((hm.kept.2 g8 hg8l N8.out).trans K80.out);clear hm hS_;have hS_:=(show W2.cell? ⟨g8,1,none⟩=some (.int .i64 s.f1)∧W2.cell? ⟨g8,2,none⟩=some (.int .i64 s.f2)∧W2.cell? ⟨gwp,0,none⟩=some (.pointer (some ⟨g,0,none⟩))∧W2.cell? (ad7.add s.f2.toNat)=some (.int .i64 (rd c.2 s.f2))from⟨(c7Q K82.out).2.1,(c7Q K82.out).2.2.1,blk_cell HM2.out.st.pw 0,to_cell HTO.out (fun j ho hl=>(HRl.out.leave HBc.out HM2.out).kept.2 j hl ho) HJ0.out.1 HJ0.out.2⟩)))
      obtain⟨hj2,hT2⟩:=iN (show(if 0≤s.f1∧s.f1< (c.2.length:Int)then _ else none)=some _ from HT3.out);obtain⟨st2,HA2,hT2⟩:=bO hT2;obtain rfl:=Option.some.inj hT2;obtain⟨hl2,rfl⟩:=tAdd_len HA2.out;have j2a:0≤s.f1:=hj2.1;have j2b:s.f1< (c.2.length:Int):=hj2.2;have HJ2:=aM hj2;clear hj2;clear y7 yp z0 z1 z2 z3 z4 z5 z6;obtain⟨z0,z1,z2,z3,z4,z5,z6⟩:=c7Q K82.out;have y7:=to_cell HTO.out (fun j ho hl=>(HRl.out.leave HBc.out HM2.out).kept.2 j hl ho) j2a j2b;have yp:W2.cell? ⟨gwp,0,none⟩=some (.pointer (some ⟨g,0,none⟩)):=blk_cell HM2.out.st.pw 0;clear hS_;go_upto_region 28 with fail
      go_region_held3 (fun w'=>w'.cell? ⟨g8,1,none⟩=some (.int .i64 s.f1)∧w'.cell? ⟨g8,2,none⟩=some (.int .i64 s.f2)∧w'.cell? ⟨gwp,0,none⟩=some (.pointer (some ⟨g,0,none⟩))∧w'.cell? (ad7.add s.f1.toNat)=some (.int .i64 (rd c.2 s.f1))) (first|exact hS_|go_keep) (first| (go_at_call 72;(with_reducible refine(HM2.out.drew.add (k:=5) (a:=y) (b:=_) hl2).mono ?_);rintro e_ W3 ⟨rfl,B3,b3,hm⟩;have HM3:=aM hm;have K83:=aM ((hm.kept.2 g8 hg8l N8.out).trans K80.out);clear hm;have hS_:=(show W3.cell? ⟨g8,1,none⟩=some (.int .i64 s.f1)∧W3.cell? ⟨g8,2,none⟩=some (.int .i64 s.f2)∧W3.cell? ⟨gwp,0,none⟩=some (.pointer (some ⟨g,0,none⟩))∧W3.cell? (ad7.add s.f1.toNat)=some (.int .i64 (rd c.2 s.f1))from⟨(c7Q K83.out).2.1,(c7Q K83.out).2.2.1,blk_cell HM3.out.st.pw 0,to_cell HTO.out (fun j ho hl=>(HRl.out.leave HBc.out HM3.out).kept.2 j hl ho) HJ2.out.1 HJ2.out.2⟩)) | (go_at_call 125;(with_reducible refine(HM3.out.more HQ3.out).mono ?_);rintro e_ W4 ⟨rfl,B4,b4,hm⟩;have HM4:=aM hm;have K84:=aM ((hm.kept.2 g8 hg8l N8.out).trans K80.out);clear hm hS_;have hS_:=(show W4.cell? ⟨g8,1,none⟩=some (.int .i64 s.f1)∧W4.cell? ⟨g8,2,none⟩=some (.int .i64 s.f2)∧W4.cell? ⟨gwp,0,none⟩=some (.pointer (some ⟨g,0,none⟩))∧W4.cell? (ad7.add s.f1.toNat)=some (.int .i64 (rd c.2 s.f1))from⟨(c7Q K84.out).2.1,(c7Q K84.out).2.2.1,blk_cell HM4.out.st.pw 0,to_cell HTO.out (fun j ho hl=>(HRl.out.leave HBc.out HM4.out).kept.2 j hl ho) HJ2.out.1 HJ2.out.2⟩)))
      clear hS_ y7 yp;go_wp2_with fail
      go_roundg d
      case measure=>omega
      case rel=>exact⟨d,(i:Int) - 1,q',_,B4,b4,HLD.out,Nat.le_refl _,HZN,rfl,HQ',⟨HRl.out.leave HBc.out HM4.out⟩⟩
     have t5:(s.f0==5)=false:=by simpa using e5
     rw[if_neg e5]at hST;by_cases e6:s.f0=6
     ·rw[if_pos e6]at hST;obtain⟨q1,HT1,hST⟩:=bO hST;obtain⟨q2,HQ2,hST⟩:=bO hST;obtain⟨q3,HT3,hST⟩:=bO hST;have HQ3:=aM hST;rw[e6]at z0;clear hST;obtain⟨hj0,hT0⟩:=iN (show(if 0≤s.f2∧s.f2< (c.2.length:Int)then _ else none)=some _ from HT1.out);obtain⟨st0,HA0,hT0⟩:=bO hT0;obtain rfl:=Option.some.inj hT0;obtain⟨hl0,rfl⟩:=tAdd_len HA0.out;have j0a:0≤s.f2:=hj0.1;have j0b:s.f2< (c.2.length:Int):=hj0.2;have HJ0:=aM hj0;clear hj0;obtain⟨ad7,e7_,y7⟩:=Kd.at_int (Kd.R_reads' (Kd.R_step HTO.out (fun j ho hl=>(HRl.out.leave HBc.out HM0.out).kept.2 j hl ho))).2.2 s.f2 j0a j0b;subst e7_;have yp:wc.cell? ⟨gwp,0,none⟩=some (.pointer (some ⟨g,0,none⟩)):=blk_cell HM0.out.st.pw 0;go_upto_region 30 with fail
      go_region_held3 (fun w'=>w'.cell? ⟨g8,1,none⟩=some (.int .i64 s.f1)∧w'.cell? ⟨g8,2,none⟩=some (.int .i64 s.f2)∧w'.cell? ⟨gwp,0,none⟩=some (.pointer (some ⟨g,0,none⟩))∧w'.cell? (ad7.add s.f2.toNat)=some (.int .i64 (rd c.2 s.f2))) (first|exact hS_|go_keep) (first| (go_at_call 72;(with_reducible refine(HM0.out.drew.add (k:=6) (a:=y) (b:=_) hl0).mono ?_);rintro e_ W1 ⟨rfl,B1,b1,hm⟩;have HM1:=aM hm;have K81:=aM ((hm.kept.2 g8 hg8l N8.out).trans K80.out);clear hm;have hS_:=(show W1.cell? ⟨g8,1,none⟩=some (.int .i64 s.f1)∧W1.cell? ⟨g8,2,none⟩=some (.int .i64 s.f2)∧W1.cell? ⟨gwp,0,none⟩=some (.pointer (some ⟨g,0,none⟩))∧W1.cell? (ad7.add s.f2.toNat)=some (.int .i64 (rd c.2 s.f2))from⟨(c7Q K81.out).2.1,(c7Q K81.out).2.2.1,blk_cell HM1.out.st.pw 0,to_cell HTO.out (fun j ho hl=>(HRl.out.leave HBc.out HM1.out).kept.2 j hl ho) HJ0.out.1 HJ0.out.2⟩)))
      clear hS_ y7 yp z0 z1 z2 z3 z4 z5 z6;obtain⟨z0,z1,z2,z3,z4,z5,z6⟩:=c7Q K81.out;go_upto_region 32 with (go_at_call 125;(with_reducible refine(HM1.out.more HQ2.out).mono ?_);rintro e_ W2 ⟨rfl,B2,b2,hm⟩;have HM2:=aM hm;have K82:=aM ((hm.kept.2 g8 hg8l N8.out).trans K80.out);clear hm z0 z1 z2 z3 z4 z5 z6;obtain⟨z0,z1,z2,z3,z4,z5,z6⟩:=c7Q K82.out)
      have y7:=trivial;have yp:=trivial;obtain⟨hj2,hT2⟩:=iN (show(if 0≤(i:Int)∧(i:Int)< (c.2.length:Int)then _ else none)=some _ from HT3.out);obtain⟨st2,HA2,hT2⟩:=bO hT2;obtain rfl:=Option.some.inj hT2;obtain⟨hl2,rfl⟩:=tAdd_len HA2.out;have j2a:0≤(i:Int):=hj2.1;have j2b:(i:Int)< (c.2.length:Int):=hj2.2;have HJ2:=aM hj2;clear hj2;clear y7 yp z0 z1 z2 z3 z4 z5 z6;obtain⟨z0,z1,z2,z3,z4,z5,z6⟩:=c7Q K82.out;have y7:=to_cell HTO.out (fun j ho hl=>(HRl.out.leave HBc.out HM2.out).kept.2 j hl ho) j2a j2b;rw[Int.toNat_natCast]at y7;have yp:W2.cell? ⟨gwp,0,none⟩=some (.pointer (some ⟨g,0,none⟩)):=blk_cell HM2.out.st.pw 0;go_region_held3 (fun w'=>w'.cell? ⟨g8,1,none⟩=some (.int .i64 s.f1)∧w'.cell? ⟨g8,2,none⟩=some (.int .i64 s.f2)∧w'.cell? ⟨gwp,0,none⟩=some (.pointer (some ⟨g,0,none⟩))∧w'.cell? (ad7.add i)=some (.int .i64 (rd c.2 (i:Int)))) (first|exact hS_|go_keep) (first| (go_at_call 72;(with_reducible refine(HM2.out.drew.add (k:=5) (a:=(q.1.length:Int)) (b:=_) hl2).mono ?_);rintro e_ W3 ⟨rfl,B3,b3,hm⟩;have HM3:=aM hm;have K83:=aM ((hm.kept.2 g8 hg8l N8.out).trans K80.out);clear hm;have hS_:=(show W3.cell? ⟨g8,1,none⟩=some (.int .i64 s.f1)∧W3.cell? ⟨g8,2,none⟩=some (.int .i64 s.f2)∧W3.cell? ⟨gwp,0,none⟩=some (.pointer (some ⟨g,0,none⟩))∧W3.cell? (ad7.add i)=some (.int .i64 (rd c.2 (i:Int)))from⟨(c7Q K83.out).2.1,(c7Q K83.out).2.2.1,blk_cell HM3.out.st.pw 0,to_cell HTO.out (fun j ho hl=>(HRl.out.leave HBc.out HM3.out).kept.2 j hl ho) HJ2.out.1 HJ2.out.2⟩)) | (go_at_call 126;(with_reducible refine(HM3.out.less HQ3.out).mono ?_);rintro e_ W4 ⟨rfl,B4,b4,hm⟩;have HM4:=aM hm;have K84:=aM ((hm.kept.2 g8 hg8l N8.out).trans K80.out);clear hm hS_;have hS_:=(show W4.cell? ⟨g8,1,none⟩=some (.int .i64 s.f1)∧W4.cell? ⟨g8,2,none⟩=some (.int .i64 s.f2)∧W4.cell? ⟨gwp,0,none⟩=some (.pointer (some ⟨g,0,none⟩))∧W4.cell? (ad7.add i)=some (.int .i64 (rd c.2 (i:Int)))from⟨(c7Q K84.out).2.1,(c7Q K84.out).2.2.1,blk_cell HM4.out.st.pw 0,to_cell HTO.out (fun j ho hl=>(HRl.out.leave HBc.out HM4.out).kept.2 j hl ho) HJ2.out.1 HJ2.out.2⟩)))
      clear hS_ y7 yp;go_wp2_with fail
      go_roundg d
      case measure=>omega
      case rel=>exact⟨d,(i:Int) - 1,q',_,B4,b4,HLD.out,Nat.le_refl _,HZN,rfl,HQ',⟨HRl.out.leave HBc.out HM4.out⟩⟩
     have t6:(s.f0==6)=false:=by simpa using e6
     rw[if_neg e6]at hST;obtain rfl:=Option.some.inj hST;clear hST;go_wp2_with fail
     go_roundg d
     case measure=>omega
     case rel=>exact⟨d,(i:Int) - 1,q,_,A,cc,HLD.out,Nat.le_refl _,HZN,rfl,HQ',⟨HRl.out.leave HBc.out HM0.out⟩⟩
theorem tape_reverse.calls(k:Nat)(n:Int)(As:Option Addr)(cs:Nat)(ss:List S81)(Ao:Option Addr)(co:Nat)(os:List Int)(r1:Int)(r2:List S81)(r3:List Int)(w:World)(hG:HasT w)
  (hr1:Kd.C k81 w As ss.length ss) (hc1:ss.length≤cs) (hr2:Kd.C (Kd.int .i64) w Ao os.length os) (hc2:os.length≤co) (h:tape_reverse.f k n ss os=some (r1,r2,r3)):
  Calls Tryz.prog 68 #[.agg #[.int .i64 n,.slice As ss.length cs,.slice Ao os.length co]] w fun e w'=> ∃v2_ v3_:Value,e= .returned (.agg #[.int .i64 r1,v2_,v3_])∧Kd.V k81 81 w' w.heap.size (fun k_=>w.heap.size≤k_) v2_ r2∧Kd.V (Kd.int .i64) 3 w' w.heap.size (fun k_=>w.heap.size≤k_) v3_ r3∧Below w.heap.size w w':=by
 refine(tape_reverse.calls0 k n As cs ss Ao co os (r1,r2,r3) w hG hr1 hc1 hr2 hc2 h).mono ?_;rintro e w' ⟨A,c,A',c',rfl,h1,h2,hb⟩;exact⟨_,_,rfl,Kd.V_mk h1.1 h1.2,Kd.V_mk h2.1 h2.2,hb⟩
end Go.Proofs.YtdiflpfkoigmaaaGreatDoor.PTapeCheap
