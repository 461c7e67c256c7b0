-- written by a program of this session, after the kit's print
import Derived.Test.YtjjbondlcjnaiaaGreatPSparseToldx10
import Derived.Test.YtjjbondlcjnaiaaGreatPSparseToldx15
namespace Go.Proofs.YtjjbondlcjnaiaaGreat.PSparseTold
open Go.RowKit Go.Proofs.YtjjbondlcjnaiaaGreatW.PrintWords Go.Proofs.YtjjbondlcjnaiaaGreatW.PrintLast Go.Proofs.YtjjbondlcjnaiaaGreatW.PrintMore
set_option maxHeartbeats 8000000
set_option maxRecDepth 100000
attribute [local go_sem] max2_int min2_int max_two min_two max_three min_three max_four min_four
set_option linter.unusedVariables false
set_option linter.unusedSimpArgs false
structure BoxF (w W:World) (gb:Nat) (u5 u7:Value) (acc:List (List S59)) (part:List S59) (t:S59) (v2 v3:Value):Prop where
 out:Kd.R (Kd.slice 59 k59) 35 W w.heap.size (fun k=>some k≠u7.ownBlock∧some k≠v2.ownBlock∧some k≠v3.ownBlock∧k≠gb) u5 acc
 row:Kd.S k59 59 W w.heap.size (fun k=>some k≠v2.ownBlock∧some k≠v3.ownBlock∧k≠gb) u7 part
 num:Kd.R (Kd.int .u32) 60 W w.heap.size (fun k=>some k≠v3.ownBlock) v2 t.f2
 den:Kd.R (Kd.int .u32) 60 W w.heap.size (fun k=>some k≠v2.ownBlock) v3 t.f3
 box:W.heap[gb]? =some (.cells #[.int .i64 t.f0,.bool t.f1,v2,v3] 59 (0,0))
 below:Below w.heap.size w W
 base:w.heap.size≤gb
theorem BoxF.put{w W W1:World}{gb:Nat}{u5 u7:Value}{acc:List (List S59)}{part:List S59}{a0 b0 c0 d0 v2 v3:Value}{a:Int}{b:Bool}{x2 x3:List Int}
  (hO:Kd.R (Kd.slice 59 k59) 35 W w.heap.size (fun k=>some k≠u7.ownBlock∧k≠gb) u5 acc) (hS:Kd.S k59 59 W w.heap.size (fun k=>k≠gb) u7 part)
  (hK:W1.heap[gb]? =some (.cells #[a0,b0,c0,d0] 59 (0,0))) (hB:Below w.heap.size w W) (hG:w.heap.size≤gb) (hb:Below W.heap.size W W1)
  (h2:Kd.R (Kd.int .u32) 60 W1 W.heap.size (fun k=>some k≠v3.ownBlock) v2 x2) (h3:Kd.R (Kd.int .u32) 60 W1 W.heap.size (fun k=>some k≠v2.ownBlock) v3 x3):
  BoxF w ((((W1.setCell ⟨gb,0,none⟩ (.int .i64 a)).setCell ⟨gb,1,none⟩ (.bool b)).setCell ⟨gb,2,none⟩ v2).setCell ⟨gb,3,none⟩ v3) gb u5 u7 acc part ⟨a,b,x2,x3⟩ v2 v3:=by
 have e5:=Kd.R_mono (Kd.R_told (Kd.R_told (Kd.R_old hO hb) (Kd.R_base h2)) (Kd.R_base h3)) (fun _ h=>h.1);have e7:=Kd.S_mono (Kd.S_told (Kd.S_told (Kd.S_old hS hb) (Kd.R_base h2)) (Kd.R_base h3)) (fun _ h=>h.1);have hs:=below_size hB;refine⟨Kd.R_mono (rFo e5 (fun _ hk=>hk.1.1.2)) (fun _ hk=>⟨hk.1.1.1,hk.1.2,hk.2,hk.1.1.2⟩),Kd.S_mono (Kd.S_far (p:=⟨gb,3,none⟩) (Kd.S_far (p:=⟨gb,2,none⟩) (Kd.S_far (p:=⟨gb,1,none⟩) (Kd.S_far (p:=⟨gb,0,none⟩) e7 (fun _ hk=>hk.1.1) _) (fun _ hk=>hk.1.1) _) (fun _ hk=>hk.1.1) _) (fun _ hk=>hk.1.1) _) (fun _ hk=>⟨hk.1.2,hk.2,hk.1.1⟩),Kd.R_mono (rFo (Kd.R_types (Kd.R_lower h2 hs) hK (by decide)) (fun _ hk=>hk.2)) (fun _ hk=>hk.1),Kd.R_mono (rFo (Kd.R_types (Kd.R_lower h3 hs) hK (by decide)) (fun _ hk=>hk.2)) (fun _ hk=>hk.1),blk4 hK _ _ _ _,?_,hG⟩;exact below_set (below_set (below_set (below_set (below_step hB hb) hG) hG) hG) hG
theorem BoxF.first{w W W1 W2:World}{gb:Nat}{u5 u7:Value}{acc:List (List S59)}{part:List S59}{a0 b0 c0 d0 v2 v3:Value}{a:Int}{b:Bool}{x2 x3:List Int}
  (hO:Kd.R (Kd.slice 59 k59) 35 W w.heap.size (fun k=>some k≠u7.ownBlock) u5 acc) (hS:Kd.S k59 59 W w.heap.size (fun _=>True) u7 part)
  (hB:Below w.heap.size w W) (hb:Below W.heap.size W W1)
  (h2:Kd.R (Kd.int .u32) 60 W1 W.heap.size (fun k=>some k≠v3.ownBlock) v2 x2) (h3:Kd.R (Kd.int .u32) 60 W1 W.heap.size (fun k=>some k≠v2.ownBlock) v3 x3)
  (hg:gb=W1.heap.size) (hK:W2.heap[gb]? =some (.cells #[a0,b0,c0,d0] 59 (0,0))) (hb2:Below W1.heap.size W1 W2):
  BoxF w ((((W2.setCell ⟨gb,0,none⟩ (.int .i64 a)).setCell ⟨gb,1,none⟩ (.bool b)).setCell ⟨gb,2,none⟩ v2).setCell ⟨gb,3,none⟩ v3) gb u5 u7 acc part ⟨a,b,x2,x3⟩ v2 v3:=by
 have hl:W.heap.size≤gb:=by rw[hg];exact below_size hb
 exact BoxF.put (Kd.R_elderB hO gb hl) (Kd.S_mono (Kd.S_elderB hS gb hl) (fun _ h=>h.2)) hK hB (Nat.le_trans (below_size hB) hl) (below_step hb hb2) (Kd.R_below h2 hb2) (Kd.R_below h3 hb2)
theorem BoxF.next{w W W1:World}{gb:Nat}{u5 u7:Value}{acc:List (List S59)}{part:List S59}{t:S59}{y2 y3 v2 v3:Value}{a:Int}{b:Bool}{x2 x3:List Int}
  (F:BoxF w W gb u5 u7 acc part t y2 y3) (hb:Below W.heap.size W W1)
  (h2:Kd.R (Kd.int .u32) 60 W1 W.heap.size (fun k=>some k≠v3.ownBlock) v2 x2) (h3:Kd.R (Kd.int .u32) 60 W1 W.heap.size (fun k=>some k≠v2.ownBlock) v3 x3):
  BoxF w ((((W1.setCell ⟨gb,0,none⟩ (.int .i64 a)).setCell ⟨gb,1,none⟩ (.bool b)).setCell ⟨gb,2,none⟩ v2).setCell ⟨gb,3,none⟩ v3) gb u5 u7 acc part ⟨a,b,x2,x3⟩ v2 v3:=
 BoxF.put (Kd.R_mono F.out (fun _ h=>⟨h.1,h.2.2.2⟩)) (Kd.S_mono F.row (fun _ h=>h.2.2)) (blk_below F.box hb) F.below F.base hb h2 h3
theorem BoxF.drew{w W:World}{gb:Nat}{u5 u7 v2 v3:Value}{acc:List (List S59)}{part:List S59}{t:S59}(F:BoxF w W gb u5 u7 acc part t v2 v3):BoxF w W.drew gb u5 u7 acc part t v2 v3:=
 ⟨Kd.R_drew F.out,Kd.S_drew F.row,Kd.R_drew F.num,Kd.R_drew F.den,blk_drew F.box,F.below.drew,F.base⟩
def inAt(l1:List (List S59))(i j:Nat):S59:=(l1.getD i []).getD j dRat
def inDrawn(l1:List (List S59))(i j:Nat):Bool:=decide (i< l1.length) && decide (j< (l1.getD i []).length) && decide (0< (inAt l1 i j).f2.length) && decide (0< (inAt l1 i j).f3.length)
def inCell(k:Nat)(l1:List (List S59))(i j:Nat):Option (Int×Bool×List Int×List Int):=
 (fluxionref02_Of.f k (wrap64 ((wrap64 ((i:Int) + (wrap64 (2 * (j:Int))))) +1)) 1).bind fun t=>if inDrawn l1 i j=true then fluxionref02_Of.f k (wrap64 ((wrap64 (Int.tmod (rd (inAt l1 i j).f2 0) 90)) - 40)) (wrap64 (1+ (wrap64 (Int.tmod (rd (inAt l1 i j).f3 0) 7))))else some t
def insideRow(k:Nat)(l1:List (List S59))(i:Nat):List Bool→Nat→List S59→Option (List S59)
 | [],_,acc=>some acc
 |b::bs,j,acc=>(fluxionref02_Of.f k 0 1).bind fun t0=>(if b=true then inCell k l1 i j else some t0).bind fun t=>if acc.length< 2199023255552 then insideRow k l1 i bs (j+1) (acc++ [⟨t.1,t.2.1,t.2.2.1,t.2.2.2⟩])else none
def insideRows(k:Nat)(l1:List (List S59)):List (List Bool)→Nat→List (List S59)→Option (List (List S59))
 | [],_,acc=>some acc
 |row::ps,i,acc=>(insideRow k l1 i row 0 []).bind fun r=>if acc.length< 5864062014805 then insideRows k l1 ps (i+1) (acc++ [r])else none
def fluxionlaw19_inside.f(k:Nat)(l0:List (List Bool))(l1:List (List S59)):Option (List (List S59)):=insideRows k l1 l0 0 []
theorem fluxionlaw19_inside.calls(k:Nat)(A0:Option Addr)(c0:Nat)(l0:List (List Bool))(A1:Option Addr)(c1:Nat)(l1:List (List S59))(r:List (List S59))(w:World)(hr0:Kd.C (Kd.slice 4 Kd.bool) w A0 l0.length l0)(hc0:l0.length≤c0)(hr1:Kd.C (Kd.slice 59 k59) w A1 l1.length l1)(hc1:l1.length≤c1)(h:fluxionlaw19_inside.f k l0 l1=some r):
  Calls Tryz.prog 27 #[.slice A0 l0.length c0,.slice A1 l1.length c1] w fun e w'=> ∃v0_:Value,e= .returned (v0_)∧Kd.R (Kd.slice 59 k59) 35 w' w.heap.size (fun _=>True) v0_ r∧Below w.heap.size w w':=by
 have hn0:l0.length≤9223372036854775807:=hr0.2.1;have hn1:l1.length≤9223372036854775807:=hr1.2.1;have HR0:=Aside0.mk (And.intro hr0 hc0);have HR1:=Aside0.mk (And.intro hr1 hc1);have hu59:=Tryz.underlying59;clear hr0 hr1 hc0 hc1;unfold fluxionlaw19_inside.f at h;have H0:=Aside0.mk h;clear h;go_enter Tryz.func27,Tryz.ntmps27
 go_wp2
 go_loopg [5,6] l0.length (fun gg v5 v6 w'=> ∃ (i:Nat) (acc:List (List S59)),i≤l0.length∧l0.length - i≤gg∧v6= .int .i64 i∧Aside0 (insideRows k l1 (l0.drop i) i acc=some r)∧Aside0 (Kd.R (Kd.slice 59 k59) 35 w' w.heap.size (fun _=>True) v5 acc)∧Aside0 (Below w.heap.size w w'))
 case atStart=>exact⟨0,[],Nat.zero_le _,by omega,rfl,H0,⟨Kd.R_nil _ _ _ _ _⟩,⟨Below.refl _ _⟩⟩
 case round=>
 clear H0;obtain⟨i,acc,hi,hg,rfl,HP,HO,HB⟩:=hrel;by_cases hlt:i< l0.length
 ·have hltz:(i:Int)< (l0.length:Int):=by omega
  obtain⟨adp,Ap,cp,e0,hp2,hlp,hCp⟩:=brow_at HR0.out.1 i hlt;subst e0;have hd0:l0.drop i=l0[i] ::l0.drop (i+1):=List.drop_eq_getElem_cons hlt;obtain⟨row,hrow⟩: ∃row,row=l0[i] :=⟨_,rfl⟩;rw[←hrow]at hp2 hlp hCp hd0;have hP:=HP.out;rw[hd0,insideRows]at hP;obtain⟨rr,hrr,hP⟩:=Option.bind_eq_some_iff.1 hP;have HP:=Aside0.mk hP;have HRow:=Aside0.mk hrr;have HCp:=Aside0.mk hCp;have HP2:=Aside0.mk hp2;have hn3:row.length≤9223372036854775807:=hCp.2.1;clear hP hrr hd0 hrow hp2 hCp;go_wp2
  go_loopg [7,8] row.length (fun gg v7 v8 w'=> ∃ (j:Nat) (part:List S59),j≤row.length∧row.length - j≤gg∧v8= .int .i64 j∧Aside0 (insideRow k l1 i (row.drop j) j part=some rr)∧Aside0 (Kd.R (Kd.slice 59 k59) 35 w' w.heap.size (fun k_=>some k_≠(v7:Value).ownBlock) u5 acc)∧Aside0 (Kd.S k59 59 w' w.heap.size (fun _=>True) v7 part)∧Aside0 (Below w.heap.size w w'))
  case atStart=>exact⟨0,[],Nat.zero_le _,by omega,rfl,HRow,⟨Kd.R_mono HO.out (fun _ hk=>(by simp[Value.ownBlock]))⟩,⟨Kd.S_nil _ _ _ _ _⟩,HB⟩
  case round=>
  clear HRow HO HB;obtain⟨j,part,hj,hgj,rfl,HRow,HO,HS,HB⟩:=hrel;have x1:=HP2.out _ HB.out;obtain⟨wr0,hwr0⟩: ∃wr0:World,wr0=wr:=⟨_,rfl⟩;subst hwr0;by_cases hjt:j< row.length
  ·have hjtz:(j:Int)< (row.length:Int):=by omega
   have hx0:=Kd.at_bool (Kd.C_below HCp.out HB.out) (j:Int) (by omega) (by omega);obtain⟨adb,eb,hxb0⟩:=hx0;subst eb;have hd1:row.drop j=row[j] ::row.drop (j+1):=List.drop_eq_getElem_cons hjt;have hR:=HRow.out;rw[hd1,insideRow]at hR;obtain⟨⟨t1,t2,t3,t4⟩,A0',hR⟩:=bO hR;obtain⟨bj,hbj⟩: ∃b,b=row[j] :=⟨_,rfl⟩;rw[←hbj]at hR;have HRow:=Aside0.mk hR;have HXB:=Aside0.mk (fun wr hb=>(by have e:=cE (w:=wr0) hb hxb0;simpa [rdOf,hjt,←hbj]using e): ∀wr,Below wr0.heap.size wr0 wr→wr.cell? (adb.add j)=some (.bool bj));clear hR hd1 hbj hxb0;go_upto_if 32 with (first
    | ((with_reducible refine gF 49 ?_);refine gl_ (some 25) Tryz.func49 #[.int .i64 0,.int .i64 1] ?_;(with_reducible refine(fluxionref02_Of.calls k 0 1 t1 t2 t3 t4 _ A0'.out).mono ?_);rintro e w4 ⟨v2,v3,rfl,ho0,ho1,hb⟩;refine⟨_,rfl,?_⟩;have HO2:=Aside0.mk ho0;have HO3:=Aside0.mk ho1;have HB4:=Aside0.mk hb;clear hb ho0 ho1)
    | ((with_reducible refine gD 9 ?_);refine bx_ 9 #[.int .i64 0,.bool false,.slice none 0 0,.slice none 0 0] 59 ?_;intro gb hg w5 hbox hb;have G5:=Aside0.mk hg;have K5:=Aside0.mk hbox;have HB5:=Aside0.mk hb;clear hg hbox hb;obtain⟨y1,y2,y3,y4,y5,y6,y7,y8⟩:=c4Q K5.out;obtain⟨B2,d2,e2⟩:=Kd.R_slice HO2.out;subst e2;obtain⟨B3,d3,e3⟩:=Kd.R_slice HO3.out;subst e3)
    | ((with_reducible refine gate_store (t:=59) (p:=9) rfl ?_);refine store_event (t:=59) (p:=9) (v:=?vo_w) (w1:=((((w5.setCell ⟨gb,0,none⟩ (.int .i64 t1)).setCell ⟨gb,1,none⟩ (.bool t2)).setCell ⟨gb,2,none⟩ (.slice B2 t3.length d2)).setCell ⟨gb,3,none⟩ (.slice B3 t4.length d3))) ?hg ?ho ?hn ?hr ?_;(case ho=>rfl);(case hg=>rfl);(case hn=>rfl);(case hr=>first| (go_simp;done) | (go_simp;rfl));intro w6 hw;have F:=Aside0.mk (hw▸BoxF.first HO.out HS.out HB.out HB4.out HO2.out HO3.out G5.out K5.out HB5.out:BoxF w w6 gb u5 u7 acc part ⟨t1,t2,t3,t4⟩ (.slice B2 t3.length d2) (.slice B3 t4.length d3));have HB6:=Aside0.mk (hw▸below_sum (below_step HB4.out HB5.out) (G5.out▸below_size HB4.out) _ _ _ _:Below wr0.heap.size wr0 w6);have z1:=HP2.out _ F.out.below;have z2:=HXB.out _ HB6.out;clear hw HO2 HO3 HB4 G5 K5 HB5 y1 y2 y3 y4 y5 y6 y7 y8))
   go_cut [] (fun wc=> ∃ (t:S59) (v2 v3:Value),Aside0 (BoxF w wc gb u5 u7 acc part t v2 v3)∧Aside0 (part.length< 2199023255552∧insideRow k l1 i (row.drop (j+1)) (j+1) (part++ [t])=some rr))
   case first=>
    cases bj
    case false=>
     have hR:=HRow.out;rw[if_neg (by decide),Option.bind_some]at hR;have HR':=Aside0.mk (iN hR);clear hR HRow;go_wp2_with fail
     go_meet
     case rel=>exact⟨_,_,_,F,⟨HR'.out⟩⟩
    case true=>
     have hR:=HRow.out;rw[if_pos rfl]at hR;obtain⟨⟨s1,s2,s3,s4⟩,A1',hR⟩:=bO hR;have HR':=Aside0.mk (iN hR);have hI:=A1'.out;unfold inCell at hI;obtain⟨⟨p1,p2,p3,p4⟩,A2',hI⟩:=bO hI;have HI:=Aside0.mk hI;clear hR HRow hI A1';obtain⟨wf,hwf⟩: ∃wf:World,wf=w6:=⟨_,rfl⟩;subst hwf;obtain⟨y1,y2,y3,y4,y5,y6,y7,y8⟩:=c4Q F.out.box;go_upto_region 12 with ((with_reducible refine gF 49 ?_);refine gl_ (some 38) Tryz.func49 #[.int .i64 (wrap64 ((wrap64 ((i:Int) + (wrap64 (2 * (j:Int))))) +1)),.int .i64 1] ?_;(with_reducible refine(fluxionref02_Of.calls k _ 1 p1 p2 p3 p4 _ A2'.out).mono ?_);rintro e w7 ⟨v2,v3,rfl,ho0,ho1,hb⟩;refine⟨_,rfl,?_⟩;have HO2:=Aside0.mk ho0;have HO3:=Aside0.mk ho1;have HB7:=Aside0.mk hb;have K7:=Aside0.mk (blk_below F.out.box hb);clear hb ho0 ho1 y1 y2 y3 y4 y5 y6 y7 y8;obtain⟨y1,y2,y3,y4,y5,y6,y7,y8⟩:=c4Q K7.out;obtain⟨E2,m2,e2⟩:=Kd.R_slice HO2.out;subst e2;obtain⟨E3,m3,e3⟩:=Kd.R_slice HO3.out;subst e3)
     generalize hq_:World.setCell (World.setCell (World.setCell (World.setCell w7 ⟨gb,0,none⟩ (.int .i64 p1)) ⟨gb,1,none⟩ (.bool p2)) ⟨gb,2,none⟩ (.slice E2 p3.length m2)) ⟨gb,3,none⟩ (.slice E3 p4.length m3)=w8;have F2:=Aside0.mk (hq_▸BoxF.next F.out HB7.out HO2.out HO3.out:BoxF w w8 gb u5 u7 acc part ⟨p1,p2,p3,p4⟩ (.slice E2 p3.length m2) (.slice E3 p4.length m3));clear hq_ HO2 HO3 HB7 K7 y1 y2 y3 y4 y5 y6 y7 y8;obtain⟨l1',hl1'⟩: ∃l,l=l1:=⟨_,rfl⟩;by_cases h1:i< l1.length
     case neg=>
      have h1z: ¬ (i:Int)< (l1.length:Int):=by omega
      have hI:=HI.out;rw[if_neg (by unfold inDrawn;simp[h1])]at hI;simp only[Option.some.injEq,Prod.mk.injEq]at hI;obtain⟨rfl,rfl,rfl,rfl⟩:=hI;go_wp2_with fail
      go_meet
      case rel=>exact⟨_,_,_,F2,⟨HR'.out⟩⟩
     case pos=>
     have h1z:(i:Int)< (l1.length:Int):=by omega
     obtain⟨adq,Aq,cq,eq0,hq2,hlq,hCq⟩:=row_at HR1.out.1 i h1;subst eq0;have eR:l1.getD i [] =l1[i] :=by rw[List.getD_eq_getElem?_getD,List.getElem?_eq_getElem h1];rfl
     obtain⟨q,hq⟩: ∃q,q=l1[i] :=⟨_,rfl⟩;rw[←hq]at hq2 hlq hCq eR;have x2:=hq2 _ F2.out.below;have hn4:q.length≤9223372036854775807:=hCq.2.1;have HQ2:=Aside0.mk hq2;have HCq:=Aside0.mk hCq;have ER:=Aside0.mk eR;clear hq2 hCq hq eR;by_cases h2:j< q.length
     case neg=>
      have h2z: ¬ (j:Int)< (q.length:Int):=by omega
      have hI:=HI.out;rw[if_neg (by unfold inDrawn;rw[ER.out];simp[h2])]at hI;simp only[Option.some.injEq,Prod.mk.injEq]at hI;obtain⟨rfl,rfl,rfl,rfl⟩:=hI;go_wp2_with fail
      go_meet
      case rel=>exact⟨_,_,_,F2,⟨HR'.out⟩⟩
     case pos=>
     have h2z:(j:Int)< (q.length:Int):=by omega
     obtain⟨ad2,X2,e2,X3,e3,e0,hx0,hx1,hx2,hx3,hl2',hi2,hl3',hi3⟩:=at_T59 HCq.out (j:Int) (by omega) h2z;subst e0;have hx:rd_T59 q (j:Int)=q.getD j dRat:=by unfold rd_T59;simp[List.getD_eq_getElem?_getD,h2]
     have eX:inAt l1 i j=q.getD j dRat:=by unfold inAt;rw[ER.out]
     obtain⟨x,hxx⟩: ∃x,x=q.getD j dRat:=⟨_,rfl⟩;rw[hx,←hxx]at hx2 hx3 hl2' hi2 hl3' hi3;rw[←hxx]at eX;rw[Int.toNat_natCast]at hx2 hx3;have x3:=cE F2.out.below hx2;have x4:=cE F2.out.below hx3;have EX:=Aside0.mk eX;have HX2:=Aside0.mk hi2;have HX3:=Aside0.mk hi3;have HL2:=Aside0.mk (And.intro hl2' hl3');have HC2:=Aside0.mk hx2;have HC3:=Aside0.mk hx3;have hn5:x.f2.length≤9223372036854775807:=hi2.2.1;have hn6:x.f3.length≤9223372036854775807:=hi3.2.1;clear eX hxx hx hx0 hx1 hx2 hx3 hi2 hi3 hl2' hl3';by_cases h3:0< x.f2.length
     case neg=>
      have h3z: ¬ (0:Int)< (x.f2.length:Int):=by omega
      have hI:=HI.out;rw[if_neg (by unfold inDrawn;rw[ER.out,EX.out];simp[h3])]at hI;simp only[Option.some.injEq,Prod.mk.injEq]at hI;obtain⟨rfl,rfl,rfl,rfl⟩:=hI;go_wp2_with fail
      go_meet
      case rel=>exact⟨_,_,_,F2,⟨HR'.out⟩⟩
     case pos=>
     have h3z:(0:Int)< (x.f2.length:Int):=by omega
     by_cases h4:0< x.f3.length
     case neg=>
      have h4z: ¬ (0:Int)< (x.f3.length:Int):=by omega
      have hI:=HI.out;rw[if_neg (by unfold inDrawn;rw[ER.out,EX.out];simp[h4])]at hI;simp only[Option.some.injEq,Prod.mk.injEq]at hI;obtain⟨rfl,rfl,rfl,rfl⟩:=hI;go_wp2_with fail
      go_meet
      case rel=>exact⟨_,_,_,F2,⟨HR'.out⟩⟩
     case pos=>
     have h4z:(0:Int)< (x.f3.length:Int):=by omega
     obtain⟨ad3,e3',hd3⟩:=Kd.at_int HX2.out 0 (by omega) h3z;subst e3';obtain⟨ad4,e4',hd4⟩:=Kd.at_int HX3.out 0 (by omega) h4z;subst e4';rw[show((0:Int)).toNat=0 from rfl,Addr.add_zero']at hd3 hd4;have hI:=HI.out;rw[if_pos (by unfold inDrawn;rw[ER.out,EX.out];simp[h1,h2,h3,h4]),EX.out]at hI;have HI2:=Aside0.mk hI;have o1:=HQ2.out _ F2.out.below.drew;have o2:=cE F2.out.below.drew HC2.out;have o3:=cE F2.out.below.drew HC3.out;have o4:=cE F2.out.below.drew hd3;have o5:=cE F2.out.below.drew hd4;have x5:=cE F2.out.below hd3;have x6:=cE F2.out.below hd4;have HD3:=Aside0.mk hd3;have HD4:=Aside0.mk hd4;have q3:=eq_true h3;have q4:=eq_true h4;clear hI HI hd3 hd4;go_wp2_with fail
     refine start_ (n:=28) (S:=fun w'=>w'.cell? (adq.add i)=some (.slice (some ad2) q.length cq)∧w'.cell? ⟨(ad2.add (j * 4)).block,(ad2.add (j * 4)).off+2,none⟩=some (.slice (some ad3) x.f2.length e2)∧w'.cell? ⟨(ad2.add (j * 4)).block,(ad2.add (j * 4)).off+3,none⟩=some (.slice (some ad4) x.f3.length e3)∧w'.cell? ad3=some (.int .u32 (rd x.f2 0))∧w'.cell? ad4=some (.int .u32 (rd x.f3 0))) (ds:= [27]) (M_ 28 0) (by kernel_rfl) rfl (by kernel_rfl) ⟨o1,o2,o3,o4,o5⟩ (fun hHeld=>?_);have F3:=Aside0.mk (BoxF.drew F2.out);clear o1 o2 o3 o4 o5 x2 x3 x4 x5 x6 F2;generalize w8.drew=w8d at hHeld F3 ⊢;refine pu_ 0 (some 76) (M_ 28 1) ?_;refine pu_ 1 (some 77) (M_ 28 3) ?_;refine pu_ 2 (some 78) (M_ 28 7) ?_;refine pu_ 4 (some 80) (M_ 28 23) ?_;refine pu_ 13 (some 89) (M_ 28 8215) ?_;refine pu_ 14 (some 90) (M_ 28 24599) ?_;refine pu_ 15 (some 91) (M_ 28 57367) ?_;refine pu_ 17 (some 93) (M_ 28 188439) ?_;refine ta_ 3 (some 79) (M_ 28 188447) hHeld ?_;refine pu_ 5 (some 81) (M_ 28 188479) ?_;refine pu_ 6 (some 82) (M_ 28 188543) ?_;refine ta_ 7 (some 83) (M_ 28 188671) hHeld ?_;refine pu_ 8 (some 84) (M_ 28 188927) ?_;refine ta_ 9 (some 85) (M_ 28 189439) hHeld ?_;refine pu_ 10 (some 86) (M_ 28 190463) ?_;refine pu_ 11 (some 87) (M_ 28 192511) ?_;refine pu_ 12 (some 88) (M_ 28 196607) ?_;refine ta_ 16 (some 92) (M_ 28 262143) hHeld ?_;refine pu_ 18 (some 94) (M_ 28 524287) ?_;refine pu_ 19 (some 95) (M_ 28 1048575) ?_;refine ta_ 20 (some 96) (M_ 28 2097151) hHeld ?_;refine pu_ 21 (some 97) (M_ 28 4194303) ?_;refine ta_ 22 (some 98) (M_ 28 8388607) hHeld ?_;refine pu_ 23 (some 99) (M_ 28 16777215) ?_;refine pu_ 24 (some 100) (M_ 28 33554431) ?_;refine pu_ 25 (some 101) (M_ 28 67108863) ?_;refine one_ (i:=26) (N:=some 102) (M_ 28 134217727) rfl rfl (by kernel_rfl) (by decide) (fun K hK=>?_);refine goes_ Tryz.func49 (by kernel_rfl) rfl #[.int .i64 (wrap64 ((wrap64 (Int.tmod (rd x.f2 0) 90)) - 40)),.int .i64 (wrap64 (1+ (wrap64 (Int.tmod (rd x.f3 0) 7))))] (by rfl) rfl rfl mQ ?_;refine(fluxionref02_Of.calls k _ _ s1 s2 s3 s4 _ HI2.out).mono ?_;rintro e w9 ⟨v2,v3,rfl,ho0,ho1,hb⟩;refine⟨_,rfl,?_⟩;have HO2:=Aside0.mk ho0;have HO3:=Aside0.mk ho1;have HB9:=Aside0.mk hb;have K9:=Aside0.mk (blk_below F3.out.box hb);have HBw:=Aside0.mk (below_step F3.out.below hb);clear hb ho0 ho1;obtain⟨E4,m4,e4⟩:=Kd.R_slice HO2.out;subst e4;obtain⟨E5,m5,e5⟩:=Kd.R_slice HO3.out;subst e5;refine hK.out _ _ ⟨HQ2.out _ HBw.out,cE HBw.out HC2.out,cE HBw.out HC3.out,cE HBw.out HD3.out,cE HBw.out HD4.out⟩ (fun hHeld=>?_);clear hK K;refine no_ 102 ?_;refine last_ (i:=27) (N:=none) (M_ 28 268435455) rfl rfl (by kernel_rfl) (by decide) (fun K hK=>?_);obtain⟨y1,y2,y3,y4,y5,y6,y7,y8⟩:=c4Q K9.out;refine skip_ (w1:=?_) (by rfl) rfl ?_ ?_;rotate_left
     ·go_simp;rfl
     refine hK.out _ _ ?_;clear hK K y1 y2 y3 y4 y5 y6 y7 y8;refine done_ (by kernel_rfl) ?_;generalize hq_:World.setCell (World.setCell (World.setCell (World.setCell w9 ⟨gb,0,none⟩ (.int .i64 s1)) ⟨gb,1,none⟩ (.bool s2)) ⟨gb,2,none⟩ (.slice E4 s3.length m4)) ⟨gb,3,none⟩ (.slice E5 s4.length m5)=w10;have F4:=Aside0.mk (hq_▸BoxF.next F3.out HB9.out HO2.out HO3.out:BoxF w w10 gb u5 u7 acc part ⟨s1,s2,s3,s4⟩ (.slice E4 s3.length m4) (.slice E5 s4.length m5));clear hq_ HO2 HO3 HB9 K9;go_wp2_with fail
     go_meet
     case rel=>exact⟨_,_,_,F4,⟨HR'.out⟩⟩
   case rest=>
    obtain⟨t,v2,v3,Fc,HRc⟩:=hcut;clear HRow HXB A0' HO HS HB z1 z2 F HB6;have hLM:=HRc.out.1;have HB:=Aside0.mk Fc.out.below;obtain⟨y1,y2,y3,y4,y5,y6,y7,y8⟩:=c4Q Fc.out.box;obtain⟨X2,c2',e2⟩:=Kd.R_slice Fc.out.num;subst e2;obtain⟨X3,c3',e3⟩:=Kd.R_slice Fc.out.den;subst e3;go_wp2_with ((with_reducible refine gate_builtin (b:= .append) (xs:= #[.tmp 103,.tmp 105]) rfl ?_);(try (refine gate_guard (by rfl) ?_;dsimp only));at_builtin;refine Kd.S_append k59 (w0:=w) w.heap.size rfl (.tmp 103) (.tmp 105) 35 59 (.agg #[(.int .i64 0),(.bool false),(.slice none 0 0),(.slice none 0 0)]) 64 rfl Tryz.underlying35 info59 rfl (by decide) (by omega) u7 part t [.int .i64 t.f0,.bool t.f1,.slice X2 t.f2.length c2',.slice X3 t.f3.length c3'] (fun k_=>k_≠gb) (fun k_=>some k_=(.slice X2 t.f2.length c2':Value).ownBlock∨some k_=(.slice X3 t.f3.length c3':Value).ownBlock) rfl rfl ?aP (fun k_ hk_=>hk_.elim (fun h_=>((Kd.R_mono (ok':=fun k_=>((fun k_=>k_≠gb)) k_∧some k_≠(u7:Value).ownBlock) (Kd.R_types (Kd.R_apart' (Fc.out.num) (Kd.S_typed Fc.out.row) (by decide)) Fc.out.box (by decide)) (fun k_ hk=>⟨hk.2,hk.1.2⟩))).1 k_ h_.symm) (fun h_=>((Kd.R_mono (ok':=fun k_=>((fun k_=>k_≠gb)) k_∧some k_≠(u7:Value).ownBlock) (Kd.R_types (Kd.R_apart' (Fc.out.den) (Kd.S_typed Fc.out.row) (by decide)) Fc.out.box (by decide)) (fun k_ hk=>⟨hk.2,hk.1.2⟩))).1 k_ h_.symm)) ?aF ?aO ?aB ?aS ?aL ?_;(case aP=>exact k59_mkM _ _ _ t (Kd.R_mono (Kd.R_tight rfl (Kd.R_mono (ok':=fun k_=>((fun k_=>k_≠gb)) k_∧some k_≠(u7:Value).ownBlock) (Kd.R_types (Kd.R_apart' (Fc.out.num) (Kd.S_typed Fc.out.row) (by decide)) Fc.out.box (by decide)) (fun k_ hk=>⟨hk.2,hk.1.2⟩))) (fun _ h_=>Or.inl h_)) (Kd.R_mono (Kd.R_tight rfl (Kd.R_mono (ok':=fun k_=>((fun k_=>k_≠gb)) k_∧some k_≠(u7:Value).ownBlock) (Kd.R_types (Kd.R_apart' (Fc.out.den) (Kd.S_typed Fc.out.row) (by decide)) Fc.out.box (by decide)) (fun k_ hk=>⟨hk.2,hk.1.2⟩))) (fun _ h_=>Or.inr (h_))));(case aB=>exact bQ);(case aF=>exact(fun k_ hk e=>absurd (Nat.lt_of_lt_of_le (blk_lt (bV (h:=Fc.out.box))) hk) (by rw[e];exact Nat.lt_irrefl _)));(case aO=>exact(sX (h:=Kd.S_mono Fc.out.row (fun k_ hk=>⟨hk.2.2,fun e_=>e_.elim (fun h_=>hk.1 h_) (fun h_=>hk.2.1 h_)⟩))));(case aS=>exact(below_size bQ));(case aL=>omega);intro v1 w9 ho hb hg hat;have HO9:=Aside0.mk (Kd.R_after (ok:=(fun k_=>some k_≠(.slice X2 t.f2.length c2':Value).ownBlock∧some k_≠(.slice X3 t.f3.length c3':Value).ownBlock∧k_≠gb)) (rX (h:=Kd.R_mono Fc.out.out (fun _ hk=>⟨⟨hk.2.1,⟨hk.2.2.1,hk.2.2.2⟩⟩,hk.1⟩))) hg hat);have HB9:=Aside0.mk hb;have HS9:=Aside0.mk ho;clear ho hb hg hat)
    go_roundg (row.length - (j+1))
    case measure=>omega
    case rel=>exact⟨j+1,_,by omega,by omega,by go_num,⟨HRc.out.2⟩,⟨rX (h:=Kd.R_mono HO9.out (fun _ hk=>hk.2))⟩,⟨sX (h:=Kd.S_mono HS9.out (fun _ hk=>trivial))⟩,⟨HB9.out⟩⟩
  ·have hjtz: ¬ (j:Int)< (row.length:Int):=by omega
   have:j=row.length:=by omega
   subst this;have hR:=HRow.out;rw[List.drop_length,insideRow]at hR;have hpr:part=rr:=Option.some.inj hR;subst hpr;clear hR HRow;obtain⟨c102,hP⟩:=iN HP.out;have HP':=Aside0.mk hP;have HL:=Aside0.mk c102;clear hP c102;obtain⟨Ao,co,eo⟩:=Kd.S_slice HS.out;subst eo;go_wp2_with ((with_reducible refine gate_builtin (b:= .append) (xs:= #[.tmp 107,.tmp 109]) rfl ?_);(try (refine gate_guard (by rfl) ?_;dsimp only));at_builtin;refine Kd.R_append (Kd.slice 59 k59) (w0:=w) w.heap.size rfl (.tmp 107) (.tmp 109) 24 35 (.slice none 0 0) 24 rfl Tryz.underlying24 info35 rfl (by decide) (by omega) u5 acc part [.slice Ao part.length co] (fun _=>True) (fun k_=>((fun _=>True)) k_∧some k_≠(u5:Value).ownBlock) rfl rfl ?aP (fun _ hk=>hk) ?aF ?aO ?aB ?aS ?aL ?_;(case aP=>exact Kd.M_row (Kd.R_mono (Kd.R_apart' ((Kd.S_R HS.out)) (Kd.R_typed HO.out) (by decide)) (fun k_ hk=>⟨trivial,hk.2⟩)));(case aB=>exact bQ);(case aF=>exact(fun _ _=>trivial));(case aO=>exact(rX (h:=Kd.R_mono HO.out (fun _ hk=>trivial))));(case aS=>exact(below_size bQ));(case aL=>have:=HL.out;omega);intro v640 w103 ho hb hg hat;have HO1:=Aside0.mk ho;replace HB:=Aside0.mk hb;clear HO HS;clear ho hb hg hat)
   go_roundg (l0.length - (i+1))
   case measure=>omega
   case rel=>exact⟨i+1,_,by omega,by omega,by go_num,HP',⟨rX (h:=HO1.out)⟩,⟨bQ⟩⟩
 ·have hltz: ¬ (i:Int)< (l0.length:Int):=by omega
  have:i=l0.length:=by omega
  subst this;have hP:=HP.out;rw[List.drop_length,insideRows]at hP;obtain rfl:=Option.some.inj hP;go_wp2
  go_ret;exact⟨_,eQ,rX (h:=HO.out),bQ⟩
def slices_Clone_int_int.f(l0:List Int):Option (List Int):=if l0.length< 17592186044416 then some l0 else none
theorem slices_Clone_int_int.calls(A0:Option Addr)(c0:Nat)(l0:List Int)(r:List Int)(w:World)(hr0:Kd.C (Kd.int .i64) w A0 l0.length l0)(hc0:l0.length≤c0)(h:slices_Clone_int_int.f l0=some r):
  Calls Tryz.prog 84 #[.slice A0 l0.length c0] w fun e w'=> ∃v0_:Value,e= .returned (v0_)∧Kd.R (Kd.int .i64) 3 w' w.heap.size (fun _=>True) v0_ r∧Below w.heap.size w w':=by
 have HR0:=Aside0.mk hr0;clear hc0;unfold slices_Clone_int_int.f at h;by_cases c1:l0.length< 17592186044416
 ·rw[if_pos c1]at h;cases h;have LM:=Aside0.mk c1;clear c1;have HB:=Aside0.mk (Below.refl w.heap.size w);cases A0 with
  |none=>
   have h0:l0= [] :=by
    rcases l0 with _| ⟨x,l⟩
    ·rfl
    ·obtain⟨ad,e,_⟩:=hr0.2.2 (by simp);cases e
   subst h0;clear hr0;have hn:=Lib.run_eql_slice_nil (P:=Tryz.prog) (w:=w) (t:=23) (e:=3) (a:=none) (n:=0) (c:=c0) (n':=0) (c':=0) Tryz.underlying23;go_enter Tryz.func84,Tryz.ntmps84
   go_wp2_with fail
   go_ret;exact⟨_,rfl,Kd.R_nil _ _ _ _ _,Below.refl _ _⟩
  |some ad=>
   clear hr0;have hn:=Lib.run_eql_slice_nil (P:=Tryz.prog) (w:=w) (t:=23) (e:=3) (a:=some ad) (n:=l0.length) (c:=c0) (n':=0) (c':=0) Tryz.underlying23;go_enter Tryz.func84,Tryz.ntmps84
   go_wp2_with (first
    | (refine gD 5 ?_;refine li_ (Kd.int .i64) 3 5 ([] :List Int) [] (Reps.none _ _) ?_;intro v1 w1 ho hb _ _;have HO:=Aside0.mk ho;have HB:=Aside0.mk hb;clear ho hb)
    | ((with_reducible refine gate_builtin (b:= .append) (xs:= #[.tmp 5,.tmp 6]) rfl ?_);at_builtin;refine Kd.R_append_rows (Kd.int .i64) (w0:=w) w.heap.size rfl (.tmp 5) (.tmp 6) 23 3 (.int .i64 0) 8 rfl Tryz.underlying23 info3 rfl (by decide) (by omega) v1 ([] :List Int) l0 _ _ _ (fun _=>True) (fun _=>False) rfl rfl ?aO ?aR (fun _ _ h=>h) (fun _ h=>h.elim) ?aF ?aB ?aS ?aL ?_;(case aR=>exact Kd.C_below HR0.out HB.out);(case aB=>exact HB.out);(case aF=>exact(fun _ _=>trivial));(case aO=>exact HO.out);(case aS=>exact HB.out.size);(case aL=>have:=LM.out;simp only[List.length_nil];omega);intro v2 w2 ho hb _ _;have HO2:=Aside0.mk ho;have HB2:=Aside0.mk hb;clear ho hb))
   go_ret;exact⟨_,rfl,HO2.out,HB2.out⟩
 ·rw[if_neg c1]at h;cases h
end Go.Proofs.YtjjbondlcjnaiaaGreat.PSparseTold
