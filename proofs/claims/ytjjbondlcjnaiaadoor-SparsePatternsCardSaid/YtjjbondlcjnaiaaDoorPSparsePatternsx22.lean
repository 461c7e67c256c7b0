-- written by a program of this session, after the kit's print
import Derived.Test.YtjjbondlcjnaiaaDoorPSparsePatternsx19
import Derived.Test.YtjjbondlcjnaiaaDoorPSparsePatternsx20
import Derived.Test.YtjjbondlcjnaiaaDoorPSparsePatternsx21
namespace Go.Proofs.YtjjbondlcjnaiaaDoor.PSparsePatterns
open Go.RowKit Go.Proofs.YtjjbondlcjnaiaaDoorW.PrintWords Go.Proofs.YtjjbondlcjnaiaaDoorW.PrintLast Go.Proofs.YtjjbondlcjnaiaaDoorW.PrintMore
set_option maxHeartbeats 8000000
set_option maxRecDepth 100000
attribute [local go_sem] max2_int min2_int max_two min_two max_three min_three max_four min_four
set_option linter.unusedVariables false
set_option linter.unusedSimpArgs false
def fluxionlaw19_SparsePatterns.g(k:Nat)(n:Int)(ss:List S44)(os:List Int):Option Bool:=
 (sparse_Pattern.f k n ss os).bind fun pe=>(fluxionref11_Check.f k n ss os).bind fun bad=>
  if bad=0 then((fluxionref19_Pattern.f k n ss os).bind fun q=>(fluxionref19_Same.f k pe.1 q).bind fun same=>if same=true∧pe.2=0 then some true else none)
  else(if pe.1.length=0∧pe.2=bad then some true else none)
def fluxionlaw19_SparsePatterns.f(k:Nat)(n0:Int)(ss:List S44)(os:List Int):Option Bool:=
 (fluxionref11_Cut.f k n0 ss os 200 100).bind fun t=>fluxionlaw19_SparsePatterns.g k t.1 t.2.1 t.2.2
theorem blk3{W:World}{g:Nat}{t:TypeId}{a0 b0 c0:Value}(h:W.heap[g]? =some (.cells #[a0,b0,c0] t (0,0)))(a b c:Value):(((W.setCell ⟨g,0,none⟩ a).setCell ⟨g,1,none⟩ b).setCell ⟨g,2,none⟩ c).heap[g]? =some (.cells #[a,b,c] t (0,0)):=by
 have h0:=blk_put (cs':= #[a,b0,c0]) h 0 a rfl;have h1:=blk_put (cs':= #[a,b,c0]) h0 1 b rfl;exact blk_put (cs':= #[a,b,c]) h1 2 c rfl
theorem below3{w W:World}{g:Nat}(h:Below w.heap.size w W)(hg:w.heap.size≤g)(a b c:Value):Below w.heap.size w (((W.setCell ⟨g,0,none⟩ a).setCell ⟨g,1,none⟩ b).setCell ⟨g,2,none⟩ c):=
 below_set (below_set (below_set h hg) hg) hg
theorem fluxionlaw19_SparsePatterns.calls(k:Nat)(n0:Int)(A1:Option Addr)(c1:Nat)(ss:List S44)(A2:Option Addr)(c2:Nat)(os:List Int)(r:Bool)(w:World)(hG:HasT w)(hr1:Kd.C k44 w A1 ss.length ss)(hc1:ss.length≤c1)(hr2:Kd.C (Kd.int .i64) w A2 os.length os)(hc2:os.length≤c2)(h:fluxionlaw19_SparsePatterns.f k n0 ss os=some r):
  Calls Tryd.prog 3 #[.agg #[.int .i64 n0,.slice A1 ss.length c1,.slice A2 os.length c2]] w fun e w'=>e= .returned (.bool r)∧Below w.heap.size w w':=by
 have HR1:=Aside0.mk (And.intro hr1 hc1);have HR2:=Aside0.mk (And.intro hr2 hc2);have HG:=Aside0.mk hG;have hu25:=Tryd.underlying25;unfold fluxionlaw19_SparsePatterns.f at h;obtain⟨t,HT,h⟩:=bO h;obtain⟨n,sl,ol⟩:=t;unfold fluxionlaw19_SparsePatterns.g at h;obtain⟨pe,HPE,h⟩:=bO h;obtain⟨bad,HBAD,h⟩:=bO h;have H:=Aside0.mk h;clear hG hr1 hr2 hc1 hc2 h;go_enter Tryd.func3,Tryd.ntmps3
 go_upto_region 2 with (first
  | ((with_reducible refine gD 1 ?_);refine bx_ 1 #[.int .i64 n0,.slice A1 ss.length c1,.slice A2 os.length c2] 25 ?_;intro g1 hg w1 hbox hb;have K1:=Aside0.mk hbox;have HB:=Aside0.mk hb;clear hg hbox hb;obtain⟨y1,y1z,y2,y2z,y3,y3z⟩:=c3Q K1.out)
  | (go_at_call 5;(with_reducible refine(fluxionref11_Cut.calls k n0 A1 c1 ss A2 c2 os 200 100 n sl ol _ (Kd.C_below HR1.out.1 HB.out) HR1.out.2 (Kd.C_below HR2.out.1 HB.out) HR2.out.2 HT.out).mono ?_);rintro e_ w3 ⟨v1,v2,rfl,ho1,ho2,hb⟩;have HB3:=Aside0.mk (below_step HB.out hb);obtain⟨A3,c3,e3,l3,q3⟩:=Kd.S_reads ho1;obtain⟨A4,c4,e4,l4,q4⟩:=Kd.R_reads ho2;subst e3;subst e4;have HS1:=Aside0.mk (And.intro q3 l3);have HS2:=Aside0.mk (And.intro q4 l4);clear ho1 ho2 hb l3 q3 l4 q4)
  | ((with_reducible refine gD 3 ?_);refine bx_ 3 #[.int .i64 0,.slice none 0 0,.slice none 0 0] 25 ?_;intro g3 hg w4 hbox hb;have G3:=Aside0.mk (show w3.heap.size≤g3 by rw[hg];exact Nat.le_refl _);have K4:=Aside0.mk hbox;have HB4:=Aside0.mk hb;clear hg hbox hb;clear y1 y1z y2 y2z y3 y3z;obtain⟨z1,z1z,z2,z2z,z3,z3z⟩:=c3Q K4.out))
 generalize hq_:World.setCell (World.setCell (World.setCell w4 ⟨g3,0,none⟩ (.int .i64 n)) ⟨g3,1,none⟩ (.slice A3 sl.length c3)) ⟨g3,2,none⟩ (.slice A4 ol.length c4)=w5;have K5:=Aside0.mk (hq_▸blk3 K4.out (.int .i64 n) (.slice A3 sl.length c3) (.slice A4 ol.length c4):w5.heap[g3]? =some (.cells #[.int .i64 n,.slice A3 sl.length c3,.slice A4 ol.length c4] 25 (0,0)));have HB5:=Aside0.mk (hq_▸below3 HB4.out G3.out (.int .i64 n) (.slice A3 sl.length c3) (.slice A4 ol.length c4):Below w3.heap.size w3 w5);have HB5w:=Aside0.mk (below_step HB3.out HB5.out);clear hq_ K4 HB4 K1 HR1 HR2 z1 z1z z2 z2z z3 z3z;obtain⟨z1,z1z,z2,z2z,z3,z3z⟩:=c3Q K5.out;go_upto_region 3 with (go_at_call 6;(with_reducible refine(sparse_Pattern.calls k n A3 c3 sl A4 c4 ol pe _ (HG.out.below HB5w.out) (Kd.C_below HS1.out.1 HB5.out) HS1.out.2 (Kd.C_below HS2.out.1 HB5.out) HS2.out.2 HPE.out).mono ?_);rintro e_ w6 ⟨v6,rfl,ho,hb⟩;have HB6:=Aside0.mk hb;obtain⟨A6,c6,e6⟩:=Kd.N_slice ho;subst e6;have HO6:=Aside0.mk ho;have K6:=Aside0.mk (blk_below K5.out hb);clear ho hb)
 have HB6w:=Aside0.mk (below_step HB5w.out HB6.out);have HB6r:=Aside0.mk (below_step HB5.out HB6.out);clear z1 z1z z2 z2z z3 z3z;obtain⟨z1,z1z,z2,z2z,z3,z3z⟩:=c3Q K6.out;go_upto_region 4 with (go_at_call 7;(with_reducible refine(fluxionref11_Check.calls k n A3 c3 sl A4 c4 ol bad _ (Kd.C_below HS1.out.1 HB6r.out) HS1.out.2 (Kd.C_below HS2.out.1 HB6r.out) HS2.out.2 HBAD.out).mono ?_);rintro e_ w7 ⟨rfl,hb⟩;have HB7:=Aside0.mk hb;have K7:=Aside0.mk (blk_below K6.out hb);clear hb)
 have HB7w:=Aside0.mk (below_step HB6w.out HB7.out);have HB7r:=Aside0.mk (below_step HB6r.out HB7.out);have HO7:=Aside0.mk (Kd.N_below HO6.out HB7.out);clear z1 z1z z2 z2z z3 z3z;obtain⟨z1,z1z,z2,z2z,z3,z3z⟩:=c3Q K7.out;have h:=H.out;by_cases hbad:bad=0
 ·rw[if_pos hbad]at h;obtain⟨q,HQ,h⟩:=bO h;obtain⟨same,HSM,h⟩:=bO h;obtain⟨hse,h⟩:=iN h;obtain rfl:=Option.some.inj h;obtain⟨rfl,hpe2⟩:=hse;have hb0:(bad !=0)=false:=by simp[hbad]
  go_wp2_with (first
   | (go_at_call 10;(with_reducible refine(fluxionref19_Pattern.calls k n A3 c3 sl A4 c4 ol q _ (Kd.C_below HS1.out.1 HB7r.out) HS1.out.2 (Kd.C_below HS2.out.1 HB7r.out) HS2.out.2 HQ.out).mono ?_);rintro e_ w8 ⟨v8,rfl,ho,hb⟩;have HB8:=Aside0.mk hb;have HB8w:=Aside0.mk (below_step HB7w.out hb);obtain⟨A8,c8,e8,l8,q8⟩:=Kd.S_reads ho;subst e8;have HS8:=Aside0.mk (And.intro q8 l8);clear ho hb l8 q8)
   | (go_at_call 9;(with_reducible refine(fluxionref19_Same.calls k A6 c6 pe.1 A8 c8 q true _ (Kd.C_below (Kd.N_reads' HO7.out).2.2 HB8.out) (Kd.N_reads' HO7.out).2.1 HS8.out.1 HS8.out.2 HSM.out).mono ?_);rintro e_ w9 ⟨rfl,⟨nd,hnd⟩⟩;have HB9w:=Aside0.mk (show Below w.heap.size w w9 from by rw[hnd];exact pw_below_drewN HB8w.out nd);clear hnd)
   | (go_at_call 8;(with_reducible refine(fluxionlaw19_alive.calls true _ rfl).mono ?_);rintro e_ w10 ⟨rfl,hb⟩;have HB10w:=Aside0.mk (below_step HB9w.out hb);clear hb))
  go_ret;exact⟨rfl,HB10w.out⟩
 ·rw[if_neg hbad]at h;obtain⟨hse,h⟩:=iN h;obtain rfl:=Option.some.inj h;obtain⟨hl0,hpe2⟩:=hse;have hb0:(bad !=0)=true:=by simp[hbad]
  go_wp2_with (go_at_call 8;(with_reducible refine(fluxionlaw19_alive.calls true _ rfl).mono ?_);rintro e_ w10 ⟨rfl,hb⟩;have HB10w:=Aside0.mk (below_step HB7w.out hb);clear hb)
  go_ret;exact⟨rfl,HB10w.out⟩
end Go.Proofs.YtjjbondlcjnaiaaDoor.PSparsePatterns
